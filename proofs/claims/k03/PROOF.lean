import PyProof.Rows.All
import Wide.All
import OpenK.AllK
import Wide.FinOn
import HandS.ForMost
import HandS.ForExc
import HandS.Conv
import HandS.TupAny
import HandS.More
import HandS.IsInst
import HandS.Defaults
import KE.GoesMore
import KE.GoesEnum
import HandS.WordsDict
import HandS.TryOnly
import KE.SortData
import KE.DataMinMax
import HandS.SortKw
import HandS.HeadEnd
import HandS.HeadHook1
import HandS.HeadHook2
import HandS.HeadHook4
import HandS.Style
import HandS.SortInts
import KE.KDictKeyed
import KE.KDictWalk
import KE.KDictDisplayH
import HandS.Iter
import PyProof.WalkInts
import PyProof.SeqI3
import HandS.SortOrd
import HandS.Deep
import HandS.SetFor
import HandS.Head0
import HandS.Head1
import HandS.Head2
import PySem.Challenge.RW_cachebet_k03_whole_no_rule_is_better
set_option Elab.async false
set_option linter.all false
set_option maxRecDepth 100000
set_option maxHeartbeats 4000000
/-! The data layer: tuples by value. -/
namespace Dl
open PySem PySem.Spec PyProof.Rows L2

/-- a datum: a value as it is, or a tuple of data -/
inductive D where
  | at (v : V)
  | tup (l : List D)
  /-- a list that never changes -/
  | frl (l : List D)
abbrev dI (i : Int) : D := .at (.int i)
abbrev dB (b : Bool) : D := .at (.bl b)
abbrev dS (s : Str) : D := .at (.str s)
abbrev dR (a : Addr) : D := .at (.ref a)
abbrev dN : D := .at .non

/-- a locked or written list stays -/
def SqF (K : PySem.W.Frag) (H : Hp) (a : Addr) (xs : List V) : Prop :=
  (∃ o, H a = some (.frz o (.lst xs))) ∨ ∃ (o : Obj) (its : Array Value) (n : Nat), K.lookup a = some o ∧ o.cls = .type "list" ∧ o.dict = none ∧ o.data = .seq its n ∧ its.size ≤ sizeLine ∧ Vals xs its.toList

mutual
inductive Rp (K : PySem.W.Frag) (H : Hp) : D → V → Prop
  | at (v : V) : Rp K H (.at v) v
  | tup {a : Addr} {ds : List D} {vs : List V} (h : SqT K H a vs) (r : Rps K H ds vs) : Rp K H (.tup ds) (.ref a)
  | frl {a : Addr} {ds : List D} {vs : List V} (h : SqF K H a vs) (r : Rps K H ds vs) : Rp K H (.frl ds) (.ref a)
inductive Rps (K : PySem.W.Frag) (H : Hp) : List D → List V → Prop
  | nil : Rps K H [] []
  | cons {d : D} {v : V} {ds : List D} {vs : List V} (h : Rp K H d v) (r : Rps K H ds vs) : Rps K H (d :: ds) (v :: vs)
end

/-- what never changes stays: tuples, locked things -/
structure Tp (H H' : Hp) : Prop where
  t : ∀ a vs, H a = some (.tup vs) → H' a = some (.tup vs)
  f : ∀ a o u, H a = some (.frz o u) → H' a = some (.frz o u)
theorem Tp.refl (H : Hp) : Tp H H := ⟨fun _ _ h => h, fun _ _ _ h => h⟩
theorem Tp.trans {H H1 H2 : Hp} (a : Tp H H1) (b : Tp H1 H2) : Tp H H2 := ⟨fun x v h => b.t x v (a.t x v h), fun x o u h => b.f x o u (a.f x o u h)⟩
theorem Tp.new {H : Hp} {p : Addr} {o : HO} (h : H p = none) : Tp H (upd H p o) :=
  ⟨fun a vs e => by rw [upd_ne (ne_of_none e h)]; exact e, fun a o u e => by rw [upd_ne (ne_of_none e h)]; exact e⟩
/-- what may be changed -/
def Chg : HO → Prop
  | .tup _ => False
  | .frz _ _ => False
  | _ => True
theorem Tp.set {H : Hp} {p : Addr} {o o' : HO} (h : H p = some o') (c : Chg o') : Tp H (upd H p o) :=
  ⟨fun a vs e => by
      by_cases q : a = p
      · subst q; rw [h] at e; cases e; exact c.elim
      · rw [upd_ne q]; exact e,
   fun a o u e => by
      by_cases q : a = p
      · subst q; rw [h] at e; cases e; exact c.elim
      · rw [upd_ne q]; exact e⟩
theorem Tp.rd {H H' : Hp} {a : Addr} {vs : List V} (t : Tp H H') (h : Rd H a (.tup vs)) : Rd H' a (.tup vs) := by
  rcases h with h | ⟨o, h⟩
  · exact .inl (t.t _ _ h)
  · exact .inr ⟨o, t.f _ _ _ h⟩
theorem Tp.sqt {K : PySem.W.Frag} {H H' : Hp} {a : Addr} {vs : List V} (t : Tp H H') (h : SqT K H a vs) : SqT K H' a vs := by
  rcases h with h | h
  · exact .inl (t.rd h)
  · exact .inr h
theorem SqF.sql {K : PySem.W.Frag} {H : Hp} {a : Addr} {xs : List V} (h : SqF K H a xs) : SqL K H a xs := by
  rcases h with h | h
  · exact .inl (.inr h)
  · exact .inr h
theorem Tp.sqf {K : PySem.W.Frag} {H H' : Hp} {a : Addr} {xs : List V} (t : Tp H H') (h : SqF K H a xs) : SqF K H' a xs := by
  rcases h with ⟨o, h⟩ | h
  · exact .inl ⟨o, t.f _ _ _ h⟩
  · exact .inr h

mutual
theorem Rp.mono {K : PySem.W.Frag} {H H' : Hp} (t : Tp H H') : ∀ {d : D} {v : V}, Rp K H d v → Rp K H' d v
  | _, _, .at v => .at v
  | _, _, .tup h r => .tup (t.sqt h) (Rps.mono t r)
  | _, _, .frl h r => .frl (t.sqf h) (Rps.mono t r)
theorem Rps.mono {K : PySem.W.Frag} {H H' : Hp} (t : Tp H H') : ∀ {ds : List D} {vs : List V}, Rps K H ds vs → Rps K H' ds vs
  | _, _, .nil => .nil
  | _, _, .cons h r => .cons (Rp.mono t h) (Rps.mono t r)
end
theorem Rp.at_ {K : PySem.W.Frag} {H : Hp} {v w : V} (r : Rp K H (.at v) w) : w = v := by cases r; rfl
theorem Rp.tup_ {K : PySem.W.Frag} {H : Hp} {ds : List D} {w : V} (r : Rp K H (.tup ds) w) : ∃ a vs, w = .ref a ∧ SqT K H a vs ∧ Rps K H ds vs := by
  cases r with
  | tup h r => exact ⟨_, _, rfl, h, r⟩
theorem Rp.frl_ {K : PySem.W.Frag} {H : Hp} {ds : List D} {w : V} (r : Rp K H (.frl ds) w) : ∃ a vs, w = .ref a ∧ SqF K H a vs ∧ Rps K H ds vs := by
  cases r with
  | frl h r => exact ⟨_, _, rfl, h, r⟩
theorem Rps.length {K : PySem.W.Frag} {H : Hp} : ∀ {ds : List D} {vs : List V}, Rps K H ds vs → ds.length = vs.length
  | _, _, .nil => rfl
  | _, _, .cons _ r => by simp [Rps.length r]
theorem Rps.get {K : PySem.W.Frag} {H : Hp} : ∀ {ds : List D} {vs : List V} {i : Nat} {d : D}, Rps K H ds vs → ds[i]? = some d → ∃ v, vs[i]? = some v ∧ Rp K H d v
  | _, _, _, _, .nil, e => by simp at e
  | _, _, 0, _, .cons h _, e => by simp at e; subst e; exact ⟨_, rfl, h⟩
  | _, _, i + 1, d, .cons _ r, e => by
    obtain ⟨v, h1, h2⟩ := Rps.get (i := i) (d := d) r (by simpa using e)
    exact ⟨v, by simpa using h1, h2⟩
theorem Rps.getV {K : PySem.W.Frag} {H : Hp} : ∀ {ds : List D} {vs : List V} {i : Nat} {v : V}, Rps K H ds vs → vs[i]? = some v → ∃ d, ds[i]? = some d ∧ Rp K H d v
  | _, _, _, _, .nil, e => by simp at e
  | _, _, 0, _, .cons h _, e => by simp at e; subst e; exact ⟨_, rfl, h⟩
  | _, _, i + 1, d, .cons _ r, e => by
    obtain ⟨v, h1, h2⟩ := Rps.getV (i := i) (v := d) r (by simpa using e)
    exact ⟨v, by simpa using h1, h2⟩
theorem Rps.app {K : PySem.W.Frag} {H : Hp} : ∀ {ds es : List D} {vs us : List V}, Rps K H ds vs → Rps K H es us → Rps K H (ds ++ es) (vs ++ us)
  | _, _, _, _, .nil, s => s
  | _, _, _, _, .cons h r, s => .cons h (Rps.app r s)
theorem Rps.drop {K : PySem.W.Frag} {H : Hp} : ∀ {ds : List D} {vs : List V} (n : Nat), Rps K H ds vs → Rps K H (ds.drop n) (vs.drop n)
  | _, _, 0, r => r
  | _, _, _ + 1, .nil => .nil
  | _, _, n + 1, .cons _ r => Rps.drop n r
theorem Rps.take {K : PySem.W.Frag} {H : Hp} : ∀ {ds : List D} {vs : List V} (n : Nat), Rps K H ds vs → Rps K H (ds.take n) (vs.take n)
  | _, _, 0, _ => .nil
  | _, _, _ + 1, .nil => .nil
  | _, _, n + 1, .cons h r => .cons h (Rps.take n r)
theorem Rps.set {K : PySem.W.Frag} {H : Hp} {d : D} {v : V} (h : Rp K H d v) : ∀ {ds : List D} {vs : List V} (n : Nat), Rps K H ds vs → Rps K H (ds.set n d) (vs.set n v)
  | _, _, _, .nil => .nil
  | _, _, 0, .cons _ r => .cons h r
  | _, _, n + 1, .cons q r => .cons q (Rps.set h n r)
theorem Rps.one {K : PySem.W.Frag} {H : Hp} {d : D} {vs : List V} (r : Rps K H [d] vs) : ∃ v, vs = [v] ∧ Rp K H d v := by
  cases r with
  | cons h r => cases r; exact ⟨_, rfl, h⟩
theorem Rps.two {K : PySem.W.Frag} {H : Hp} {d e : D} {vs : List V} (r : Rps K H [d, e] vs) : ∃ v u, vs = [v, u] ∧ Rp K H d v ∧ Rp K H e u := by
  cases r with
  | cons h r => obtain ⟨u, rfl, q⟩ := r.one; exact ⟨_, _, rfl, h, q⟩
theorem Rps.nil_ {K : PySem.W.Frag} {H : Hp} {vs : List V} (r : Rps K H [] vs) : vs = [] := by cases r; rfl
theorem Rps.ofAt {K : PySem.W.Frag} {H : Hp} : ∀ (vs : List V), Rps K H (vs.map .at) vs
  | [] => .nil
  | v :: vs => .cons (.at v) (Rps.ofAt vs)
theorem Rps.toAt {K : PySem.W.Frag} {H : Hp} : ∀ {vs us : List V}, Rps K H (vs.map .at) us → us = vs
  | [], _, r => by cases r; rfl
  | v :: vs, _, r => by
    cases r with
    | cons h r => rw [Rps.toAt r, h.at_]

/-! ### what stands at an address -/
inductive MO where
  | lst (ds : List D)
  | dct (kvs : List (Key × D))
  | ins (C dx : Addr) (fs : List (Str × D))
  | raw (o : HO)
  /-- an object told by what is true of it and of its own parts -/
  | abs (P : Hp → HO → List Addr → Prop)
abbrev GH := Addr → Option MO
def gu (G : GH) (a : Addr) (m : MO) : GH := fun b => if b = a then some m else G b
theorem gu_same {G : GH} {a : Addr} {m : MO} : gu G a m a = some m := by unfold gu; rw [if_pos rfl]
theorem gu_ne {G : GH} {a b : Addr} {m : MO} (h : b ≠ a) : gu G a m b = G b := by unfold gu; rw [if_neg h]
theorem gu_gu {G : GH} {a : Addr} {m n : MO} : gu (gu G a m) a n = gu G a n := by
  funext b; unfold gu; split <;> rfl
theorem gu_comm {G : GH} {a b : Addr} {m n : MO} (h : a ≠ b) : gu (gu G a m) b n = gu (gu G b n) a m := by
  funext c; unfold gu
  by_cases h1 : c = a
  · subst h1; rw [if_neg h, if_pos rfl, if_pos rfl]
  · by_cases h2 : c = b
    · subst h2; rw [if_pos rfl, if_neg h1, if_pos rfl]
    · rw [if_neg h2, if_neg h1, if_neg h1, if_neg h2]
theorem gu_self {G : GH} {a : Addr} {m : MO} (h : G a = some m) : gu G a m = G := by
  funext b; unfold gu
  by_cases q : b = a
  · subst q; rw [if_pos rfl, h]
  · rw [if_neg q]
theorem gu_none {G : GH} {a b : Addr} {m : MO} (h : gu G a m b = none) : b ≠ a ∧ G b = none := by
  unfold gu at h
  by_cases q : b = a
  · rw [if_pos q] at h; cases h
  · rw [if_neg q] at h; exact ⟨q, h⟩
/-- fewer things known -/
def Le (G1 G : GH) : Prop := ∀ a m, G1 a = some m → G a = some m
theorem Le.refl (G : GH) : Le G G := fun _ _ h => h
theorem Le.trans {G G1 G2 : GH} (a : Le G G1) (b : Le G1 G2) : Le G G2 := fun x m h => b x m (a x m h)
theorem Le.new {G : GH} {p : Addr} {m : MO} (h : G p = none) : Le G (gu G p m) := fun a n e => by
  rw [gu_ne (by rintro rfl; rw [h] at e; cases e)]; exact e
theorem Le.gu {G G' : GH} {p : Addr} {m : MO} (h : Le G G') : Le (gu G p m) (gu G' p m) := fun a n e => by
  unfold Dl.gu at e ⊢
  by_cases q : a = p
  · rw [if_pos q] at e ⊢; exact e
  · rw [if_neg q] at e ⊢; exact h a n e
theorem Le.none {G G' : GH} (h : Le G G') {p : Addr} (e : G' p = none) : G p = none := by
  cases q : G p with
  | none => rfl
  | some m => rw [h p m q] at e; cases e

abbrev FRel (K : PySem.W.Frag) (H : Hp) : List (Str × D) → List (Str × V) → Prop := Paired fun p q => p.1 = q.1 ∧ Rp K H p.2 q.2
abbrev KRel (K : PySem.W.Frag) (H : Hp) : List (Key × D) → List (Key × V) → Prop := Paired fun p q => p.1 = q.1 ∧ Rp K H p.2 q.2
def RelMO (K : PySem.W.Frag) (H : Hp) (hid : List Addr) : MO → HO → Prop
  | .lst ds, o => hid = [] ∧ ∃ vs, o = .lst vs ∧ Rps K H ds vs
  | .dct kvs, o => hid = [] ∧ ∃ ws, o = .dK ws ∧ KRel K H kvs ws
  | .ins C dx fs, o => hid = [] ∧ ∃ gs, o = .ins C dx gs ∧ FRel K H fs gs
  | .raw u, o => hid = [] ∧ o = u
  | .abs P, o => P H o hid ∧ (∀ H', Tp H H' → (∀ b ∈ hid, H' b = H b) → P H' o hid) ∧ Chg o
structure RelH (K : PySem.W.Frag) (G : GH) (H : Hp) (hid : Addr → List Addr) : Prop where
  ob : ∀ p m, G p = some m → ∃ o, H p = some o ∧ RelMO K H (hid p) m o
  hd : ∀ p m, G p = some m → ∀ b ∈ hid p, G b = none ∧ (H b).isSome = true
  dj : ∀ p q m n, G p = some m → G q = some n → ∀ b, b ∈ hid p → b ∈ hid q → p = q
def RelG (K : PySem.W.Frag) (G : GH) (H : Hp) : Prop := ∃ hid, RelH K G H hid

section
variable {K : PySem.W.Frag} {G G1 : GH} {H H' : Hp} {hid : List Addr} {m : MO} {o : HO} {p : Addr}
theorem Paired.imp {α β : Type} {F F' : α → β → Prop} : ∀ {l : List α} {l' : List β}, Paired F l l' → (∀ a b, F a b → F' a b) → Paired F' l l'
  | _, _, .nil, _ => .nil
  | _, _, .cons r t, f => .cons (f _ _ r) (Paired.imp t f)
theorem FRel.mono {fs : List (Str × D)} {gs : List (Str × V)} (r : FRel K H fs gs) (t : Tp H H') : FRel K H' fs gs := Paired.imp r fun _ _ h => ⟨h.1, h.2.mono t⟩
theorem KRel.mono {fs : List (Key × D)} {gs : List (Key × V)} (r : KRel K H fs gs) (t : Tp H H') : KRel K H' fs gs := Paired.imp r fun _ _ h => ⟨h.1, h.2.mono t⟩
theorem RelMO.mono (r : RelMO K H hid m o) (t : Tp H H') (h : ∀ b ∈ hid, H' b = H b) : RelMO K H' hid m o := by
  cases m with
  | lst ds => obtain ⟨e, vs, rfl, q⟩ := r; exact ⟨e, vs, rfl, q.mono t⟩
  | dct kvs => obtain ⟨e, vs, rfl, q⟩ := r; exact ⟨e, vs, rfl, KRel.mono q t⟩
  | ins C dx fs => obtain ⟨e, vs, rfl, q⟩ := r; exact ⟨e, vs, rfl, FRel.mono q t⟩
  | raw u => exact r
  | abs P =>
    obtain ⟨a, b, c⟩ := r
    refine ⟨b H' t h, fun H2 t2 h2 => b H2 (t.trans t2) fun x hx => (h2 x hx).trans (h x hx), c⟩
theorem RelG.fresh (r : RelG K G H) (h : H p = none) : G p = none := by
  obtain ⟨hid, r⟩ := r
  cases q : G p with
  | none => rfl
  | some m => obtain ⟨o, e, _⟩ := r.ob p m q; rw [h] at e; cases e
/-- a new object -/
theorem RelG.new (r : RelG K G H) (h : H p = none) (hm : RelMO K (upd H p o) [] m o) : RelG K (gu G p m) (upd H p o) := by
  have hg := r.fresh h
  obtain ⟨hid, r⟩ := r
  have ne : ∀ b, (H b).isSome = true → b ≠ p := fun b e z => by subst z; rw [h] at e; cases e
  have neG : ∀ q n, G q = some n → q ≠ p := fun q n e z => by subst z; rw [hg] at e; cases e
  refine ⟨fun q => if q = p then [] else hid q, ⟨fun q n e => ?_, fun q n e b hb => ?_, fun q q' n n' e e' b hb hb' => ?_⟩⟩
  · by_cases z : q = p
    · subst z
      rw [gu_same] at e; cases e
      exact ⟨o, upd_same, by rw [if_pos rfl]; exact hm⟩
    · rw [gu_ne z] at e
      obtain ⟨u, e1, e2⟩ := r.ob q n e
      refine ⟨u, by rw [upd_ne z]; exact e1, ?_⟩
      rw [if_neg z]
      exact e2.mono (Tp.new h) fun b hb => upd_ne (ne b (r.hd q n e b hb).2)
  · by_cases z : q = p
    · rw [if_pos z] at hb; cases hb
    · rw [if_neg z] at hb
      rw [gu_ne z] at e
      obtain ⟨h1, h2⟩ := r.hd q n e b hb
      have nb := ne b h2
      exact ⟨by rw [gu_ne nb]; exact h1, by rw [upd_ne nb]; exact h2⟩
  · by_cases z : q = p
    · rw [if_pos z] at hb; cases hb
    · by_cases z' : q' = p
      · rw [if_pos z'] at hb'; cases hb'
      · rw [if_neg z] at hb; rw [if_neg z'] at hb'
        rw [gu_ne z] at e; rw [gu_ne z'] at e'
        exact r.dj q q' n n' e e' b hb hb'
/-- an object that is seen changes -/
theorem RelG.set {n : MO} {u : HO} (r : RelG K G H) (hp : G p = some n) (hu : H p = some u) (c : Chg u) (hm : RelMO K (upd H p o) [] m o) : RelG K (gu G p m) (upd H p o) := by
  obtain ⟨hid, r⟩ := r
  have tp : Tp H (upd H p o) := Tp.set hu c
  refine ⟨fun q => if q = p then [] else hid q, ⟨fun q n e => ?_, fun q n e b hb => ?_, fun q q' n n' e e' b hb hb' => ?_⟩⟩
  · by_cases z : q = p
    · subst z
      rw [gu_same] at e; cases e
      exact ⟨o, upd_same, by rw [if_pos rfl]; exact hm⟩
    · rw [gu_ne z] at e
      obtain ⟨u, e1, e2⟩ := r.ob q n e
      refine ⟨u, by rw [upd_ne z]; exact e1, ?_⟩
      rw [if_neg z]
      refine e2.mono tp fun b hb => upd_ne ?_
      rintro rfl
      rw [(r.hd q n e b hb).1] at hp; cases hp
  · by_cases z : q = p
    · rw [if_pos z] at hb; cases hb
    · rw [if_neg z] at hb
      rw [gu_ne z] at e
      obtain ⟨h1, h2⟩ := r.hd q n e b hb
      have nb : b ≠ p := by rintro rfl; rw [h1] at hp; cases hp
      exact ⟨by rw [gu_ne nb]; exact h1, by rw [upd_ne nb]; exact h2⟩
  · by_cases z : q = p
    · rw [if_pos z] at hb; cases hb
    · by_cases z' : q' = p
      · rw [if_pos z'] at hb'; cases hb'
      · rw [if_neg z] at hb; rw [if_neg z'] at hb'
        rw [gu_ne z] at e; rw [gu_ne z'] at e'
        exact r.dj q q' n n' e e' b hb hb'
/-- forgetting -/
theorem RelG.le (r : RelG K G H) (h : Le G1 G) : RelG K G1 H := by
  obtain ⟨hid, r⟩ := r
  exact ⟨hid, ⟨fun p m e => r.ob p m (h p m e), fun p m e b hb => ⟨h.none (r.hd p m (h p m e) b hb).1, (r.hd p m (h p m e) b hb).2⟩,
    fun p q m n e e' b hb hb' => r.dj p q m n (h _ _ e) (h _ _ e') b hb hb'⟩⟩
theorem RelG.lst (r : RelG K G H) {ds : List D} (h : G p = some (.lst ds)) : ∃ vs, H p = some (.lst vs) ∧ Rps K H ds vs := by
  obtain ⟨hid, r⟩ := r
  obtain ⟨o, e, _, vs, rfl, q⟩ := r.ob p _ h
  exact ⟨vs, e, q⟩
theorem RelG.dct (r : RelG K G H) {kvs : List (Key × D)} (h : G p = some (.dct kvs)) : ∃ ws, H p = some (.dK ws) ∧ KRel K H kvs ws := by
  obtain ⟨hid, r⟩ := r
  obtain ⟨o, e, _, vs, rfl, q⟩ := r.ob p _ h
  exact ⟨vs, e, q⟩
theorem RelG.ins (r : RelG K G H) {C dx : Addr} {fs : List (Str × D)} (h : G p = some (.ins C dx fs)) : ∃ gs, H p = some (.ins C dx gs) ∧ FRel K H fs gs := by
  obtain ⟨hid, r⟩ := r
  obtain ⟨o, e, _, vs, rfl, q⟩ := r.ob p _ h
  exact ⟨vs, e, q⟩
theorem RelG.raw (r : RelG K G H) {u : HO} (h : G p = some (.raw u)) : H p = some u := by
  obtain ⟨hid, r⟩ := r
  obtain ⟨o, e, _, rfl⟩ := r.ob p _ h
  exact e
/-- one thing read as another -/
def Ent (K : PySem.W.Frag) (G G' : GH) : Prop := ∀ H, RelG K G H → RelG K G' H
theorem Ent.refl (G : GH) : Ent K G G := fun _ h => h
theorem Ent.le (h : Le G1 G) : Ent K G G1 := fun _ r => r.le h
theorem Ent.trans {G2 : GH} (a : Ent K G G1) (b : Ent K G1 G2) : Ent K G G2 := fun H r => b H (a H r)
end

/-! ### states -/
abbrev DSt := List (Option D)
def gs : DSt → Nat → Option D
  | [], _ => none
  | x :: _, 0 => x
  | _ :: r, n + 1 => gs r n
def ss : DSt → Nat → D → DSt
  | [], _, _ => []
  | _ :: r, 0, d => some d :: r
  | x :: r, n + 1, d => x :: ss r n d
/-- some slots forgotten -/
def ws : DSt → Nat → DSt
  | [], _ => []
  | _ :: r, 0 => none :: r
  | x :: r, n + 1 => x :: ws r n
abbrev RelS (K : PySem.W.Frag) (H : Hp) : DSt → L2.St → Prop := Paired fun a b => ∀ d, a = some d → ∃ v, b = some v ∧ Rp K H d v
section
variable {K : PySem.W.Frag} {H H' : Hp}
theorem RelS.mono {δ : DSt} {σ : L2.St} (r : RelS K H δ σ) (t : Tp H H') : RelS K H' δ σ := Paired.imp r fun _ _ h d e => by
  obtain ⟨v, e1, e2⟩ := h d e
  exact ⟨v, e1, e2.mono t⟩
theorem RelS.get : ∀ {δ : DSt} {σ : L2.St} {i : Nat} {d : D}, RelS K H δ σ → gs δ i = some d → ∃ v, σ[i]? = some (some v) ∧ Rp K H d v
  | _, _, _, _, .nil, e => by cases e
  | _, _, 0, d, .cons h _, e => by
    obtain ⟨v, e1, e2⟩ := h d e
    exact ⟨v, by simp [e1], e2⟩
  | _, _, i + 1, d, .cons _ r, e => by
    obtain ⟨v, e1, e2⟩ := RelS.get (i := i) r e
    exact ⟨v, by simpa using e1, e2⟩
theorem RelS.set {d : D} {v : V} (h : Rp K H d v) : ∀ {δ : DSt} {σ : L2.St} (i : Nat), RelS K H δ σ → RelS K H (ss δ i d) (σ.set i (some v))
  | _, _, _, .nil => .nil
  | _, _, 0, .cons _ r => .cons (fun e z => by cases z; exact ⟨v, rfl, h⟩) r
  | _, _, i + 1, .cons q r => .cons q (RelS.set h i r)
theorem RelS.weak : ∀ {δ : DSt} {σ : L2.St} (i : Nat), RelS K H δ σ → RelS K H (ws δ i) (σ.set i none)
  | _, _, _, .nil => .nil
  | _, _, 0, .cons _ r => .cons (fun e z => by cases z) r
  | _, _, i + 1, .cons q r => .cons q (RelS.weak i r)
theorem RelS.length {δ : DSt} {σ : L2.St} (r : RelS K H δ σ) : δ.length = σ.length := Paired.length r
end
/-- the states at a place -/
structure Rl (K : PySem.W.Frag) (B : Hp) (δ : DSt) (G : GH) (σ : L2.St) (H : Hp) : Prop where
  s : RelS K H δ σ
  g : RelG K G H
  b : Tp B H
theorem Rl.next {K : PySem.W.Frag} {B : Hp} {δ : DSt} {G G' : GH} {σ : L2.St} {H H' : Hp} (r : Rl K B δ G σ H) (t : Tp H H') (g : RelG K G' H') : Rl K B δ G' σ H' := ⟨r.s.mono t, g, r.b.trans t⟩

/-! ### judgements -/
abbrev DK := D → GH → Prop
abbrev TDE := DSt → GH → DK → Prop
abbrev TDT := DSt → GH → (Bool → GH → Prop) → Prop
abbrev TDA := DSt → GH → (List D → GH → Prop) → Prop
structure DEnds where
  nx : DSt → GH → Prop
  rt : DK
  bk : DSt → GH → Prop := fun _ _ => False
  ct : DSt → GH → Prop := fun _ _ => False
abbrev TDS := DEnds → DSt → GH → Prop

/-- a value behind H answers what is wanted -/
def Cn (K : PySem.W.Frag) (H : Hp) (Q : DK) (Q' : VK) : Prop := ∀ v H' d G', Tp H H' → RelG K G' H' → Rp K H' d v → Q d G' → Q' v H'
def CnT (K : PySem.W.Frag) (H : Hp) (Q : Bool → GH → Prop) (Q' : Bool → Hp → Prop) : Prop := ∀ b H' G', Tp H H' → RelG K G' H' → Q b G' → Q' b H'
def CnA (K : PySem.W.Frag) (H : Hp) (Q : List D → GH → Prop) (Q' : List V → Hp → Prop) : Prop := ∀ vs H' ds G', Tp H H' → RelG K G' H' → Rps K H' ds vs → Q ds G' → Q' vs H'
theorem Cn.mono {K : PySem.W.Frag} {H H1 : Hp} {Q : DK} {Q' : VK} (k : Cn K H Q Q') (t : Tp H H1) : Cn K H1 Q Q' := fun v H' d G' t' => k v H' d G' (t.trans t')
theorem CnT.mono {K : PySem.W.Frag} {H H1 : Hp} {Q : Bool → GH → Prop} {Q' : Bool → Hp → Prop} (k : CnT K H Q Q') (t : Tp H H1) : CnT K H1 Q Q' := fun b H' G' t' => k b H' G' (t.trans t')
structure DEnd (K : PySem.W.Frag) (B : Hp) (H : Hp) (E : DEnds) (D' : Ends) : Prop where
  nx : ∀ δ G σ H', Tp H H' → Rl K B δ G σ H' → E.nx δ G → D'.nx σ H'
  rt : Cn K H E.rt D'.rt
  bk : ∀ δ G σ H', Tp H H' → Rl K B δ G σ H' → E.bk δ G → D'.bk σ H'
  ct : ∀ δ G σ H', Tp H H' → Rl K B δ G σ H' → E.ct δ G → D'.ct σ H'
theorem DEnd.mono {K : PySem.W.Frag} {B H H1 : Hp} {E : DEnds} {D' : Ends} (k : DEnd K B H E D') (t : Tp H H1) : DEnd K B H1 E D' :=
  ⟨fun δ G σ H' t' => k.nx δ G σ H' (t.trans t'), k.rt.mono t, fun δ G σ H' t' => k.bk δ G σ H' (t.trans t'), fun δ G σ H' t' => k.ct δ G σ H' (t.trans t')⟩

def LE (K : PySem.W.Frag) (B : Hp) (te : TE) (t : TDE) : Prop := ∀ σ H δ G Q Q', Rl K B δ G σ H → t δ G Q → Cn K H Q Q' → te σ H Q'
def LT (K : PySem.W.Frag) (B : Hp) (tt : TT) (t : TDT) : Prop := ∀ σ H δ G Q Q', Rl K B δ G σ H → t δ G Q → CnT K H Q Q' → tt σ H Q'
def LA (K : PySem.W.Frag) (B : Hp) (ta : TA) (t : TDA) : Prop := ∀ σ H δ G Q Q', Rl K B δ G σ H → t δ G Q → CnA K H Q Q' → ta σ H Q'
def LS (K : PySem.W.Frag) (B : Hp) (ts : TS) (t : TDS) : Prop := ∀ σ H δ G E D', Rl K B δ G σ H → t E δ G → DEnd K B H E D' → ts D' σ H
def DE (X : Cx) (B : Hp) (e : Expr) (t : TDE) : Prop := ∃ te, PE X e te ∧ LE X.K B te t
def DT (X : Cx) (B : Hp) (e : Expr) (t : TDT) : Prop := ∃ te, PT X e te ∧ LT X.K B te t
def DW (X : Cx) (B : Hp) (e : Expr) (t : TDT) : Prop := ∃ te, PW X e te ∧ LT X.K B te t
def DA (X : Cx) (B : Hp) (es : List Expr) (t : TDA) : Prop := ∃ ta, PA X es ta ∧ LA X.K B ta t
def DS (X : Cx) (B : Hp) (s : Stmt) (t : TDS) : Prop := ∃ ts, PS X s ts ∧ LS X.K B ts t
def DSs (X : Cx) (B : Hp) (s : List Stmt) (t : TDS) : Prop := ∃ ts, PSs X s ts ∧ LS X.K B ts t
end Dl

set_option Elab.async false
set_option linter.all false
set_option maxRecDepth 100000
set_option maxHeartbeats 4000000
/-! The data layer: expressions. -/
namespace Dl
open PySem PySem.Spec PyProof.Rows L2

/-! ### data as the library reads it -/
mutual
def py : D → PyData
  | .at .non => .none
  | .at (.bl b) => .bool b
  | .at (.int i) => .int i
  | .at (.str s) => .str s
  | .at _ => .none
  | .tup l => .tuple (pys l)
  | .frl l => .list (pys l)
def pys : List D → List PyData
  | [] => []
  | d :: r => py d :: pys r
end
mutual
/-- no reference in it -/
def plain : D → Bool
  | .at v => flatV v
  | .tup l => plains l
  | .frl _ => false
def plains : List D → Bool
  | [] => true
  | d :: r => plain d && plains r
end
theorem pys_map : ∀ l : List D, pys l = l.map py
  | [] => rfl
  | d :: r => by rw [pys, pys_map r]; rfl
theorem plains_all : ∀ l : List D, plains l = l.all plain
  | [] => rfl
  | d :: r => by rw [plains, plains_all r]; rfl
mutual
/-- as data, lists too -/
inductive DPy (G : GH) : D → PyData → Prop
  | non : DPy G (.at .non) .none
  | bl (b : Bool) : DPy G (.at (.bl b)) (.bool b)
  | int (i : Int) : DPy G (.at (.int i)) (.int i)
  | str (s : Str) : DPy G (.at (.str s)) (.str s)
  | tup {l : List D} {ps : List PyData} (h : DPys G l ps) : DPy G (.tup l) (.tuple ps)
  | lst {a : Addr} {l : List D} {ps : List PyData} (e : G a = some (.lst l)) (h : DPys G l ps) : DPy G (.at (.ref a)) (.list ps)
inductive DPys (G : GH) : List D → List PyData → Prop
  | nil : DPys G [] []
  | cons {d : D} {l : List D} {p : PyData} {ps : List PyData} (h : DPy G d p) (r : DPys G l ps) : DPys G (d :: l) (p :: ps)
end
mutual
theorem DPy.of (G : GH) : ∀ (d : D), plain d = true → DPy G d (py d)
  | .at .non, _ => .non
  | .at (.bl b), _ => .bl b
  | .at (.int i), _ => .int i
  | .at (.str s), _ => .str s
  | .at (.byt _), h => by cases h
  | .at (.flt _), h => by cases h
  | .at (.ref _), h => by cases h
  | .at (.ty _), h => by cases h
  | .tup l, h => .tup (DPys.of G l h)
  | .frl _, h => by cases h
theorem DPys.of (G : GH) : ∀ (l : List D), plains l = true → DPys G l (pys l)
  | [], _ => .nil
  | d :: r, h => by
    have h' : (plain d && plains r) = true := h
    rw [Bool.and_eq_true] at h'
    exact .cons (DPy.of G d h'.1) (DPys.of G r h'.2)
end
mutual
theorem DPy.dp {K : PySem.W.Frag} {G : GH} {H : Hp} (g : RelG K G H) : ∀ {p : PyData} {d : D} {v : V}, DPy G d p → Rp K H d v → Dp K H v p
  | .none, _, _, h, r => by cases h; rw [r.at_]; exact .non
  | .bool _, _, _, h, r => by cases h; rw [r.at_]; exact .bl _
  | .int _, _, _, h, r => by cases h; rw [r.at_]; exact .int _
  | .str _, _, _, h, r => by cases h; rw [r.at_]; exact .str _
  | .tuple ps, _, _, h, r => by
    cases h with
    | tup h =>
      obtain ⟨a, vs, rfl, hs, rr⟩ := r.tup_
      exact .tup hs (DPys.dps g h rr)
  | .list ps, _, _, h, r => by
    cases h with
    | lst e h =>
      rw [r.at_]
      obtain ⟨vs, e1, rr⟩ := g.lst e
      exact .lst (SqL.of e1) (DPys.dps g h rr)
  | .dict _, _, _, h, _ => by cases h
theorem DPys.dps {K : PySem.W.Frag} {G : GH} {H : Hp} (g : RelG K G H) : ∀ {ps : List PyData} {l : List D} {vs : List V}, DPys G l ps → Rps K H l vs → DpAll K H vs ps
  | [], _, _, h, r => by cases h; cases r; exact .nil
  | p :: ps, _, _, h, r => by
    cases h with
    | cons h1 h2 =>
      cases r with
      | cons r1 r2 => exact .cons (DPy.dp g h1 r1) (DPys.dps g h2 r2)
end

/-! ### names and constants -/
def dVar (i : Nat) : TDE := fun δ G Q => match gs δ i with
  | some d => Q d G
  | none => False
def dC (d : D) : TDE := fun _ G Q => Q d G
section
variable {X : Cx} {B : Hp}
theorem de_var {i : Nat} {x : Str} {pos : Pos} (hN : X.N[i]? = some x) (hv : Vis X.env.scope x) (hd : (x == ("__debug__" : Str)) = false := by decide) (hcd : (x == ("__classdict__" : Str)) = false := by decide) :
    DE X B (.Name x pos) (dVar i) := by
  refine ⟨_, pe_var hN hv hd hcd, fun σ H δ G Q Q' R h k => ?_⟩
  unfold dVar at h
  split at h
  · rename_i d e
    obtain ⟨v, e1, r⟩ := R.s.get e
    exact ⟨v, e1, k v H d G (Tp.refl H) R.g r h⟩
  · exact h.elim
theorem dv (i : Nat) {x : Str} {pos : Pos} (hN : X.N[i]? = some x := by rfl) (hv : Vis X.env.scope x := by first | exact Or.inl rfl | exact Or.inr (Or.inl rfl) | exact Or.inr (Or.inr rfl)) (hd : (x == ("__debug__" : Str)) = false := by decide)
    (hcd : (x == ("__classdict__" : Str)) = false := by decide) : DE X B (.Name x pos) (dVar i) := de_var hN hv hd hcd
theorem de_of {e : Expr} {v : V} (h : PE X e (tC v)) : DE X B e (dC (.at v)) := ⟨_, h, fun σ H δ G Q Q' R q k => k v H (.at v) G (Tp.refl H) R.g (.at v) q⟩
theorem de_int {i j pos} : DE X B (.Constant (.int i) j pos) (dC (dI i)) := de_of pe_int
theorem de_bl {b j pos} : DE X B (.Constant (.bool b) j pos) (dC (dB b)) := de_of pe_bl
theorem de_non {j pos} : DE X B (.Constant .none j pos) (dC dN) := de_of pe_non
theorem de_str {x j pos} : DE X B (.Constant (.str x) j pos) (dC (dS x)) := de_of pe_str
/-- a constant of the module -/
theorem de_glob {x : Str} {v : V} {u : Value} {pos : Pos} (hg : Gl X x) (hm : X.mg x = some u) (r : RelV v u) (hd : (x == ("__debug__" : Str)) = false := by decide) : DE X B (.Name x pos) (dC (.at v)) := de_of (pe_glob hg hm r hd)
/-- a tuple of the module, of flat values -/
theorem de_globT {x : Str} {a : Addr} {vs : List V} {pos : Pos} (hg : Gl X x) (hm : X.mg x = some (.ref a)) (ht : ∀ H, SqT X.K H a vs) (hd : (x == ("__debug__" : Str)) = false := by decide) : DE X B (.Name x pos) (dC (.tup (vs.map .at))) :=
  ⟨_, pe_glob (v := .ref a) hg hm rfl hd, fun σ H δ G Q Q' R q k => k _ H _ G (Tp.refl H) R.g (.tup (ht H) (Rps.ofAt vs)) q⟩
theorem de_bltn {x : Str} {v : V} {u : Value} {pos : Pos} (hg : Gl X x) (hm : X.mg x = none) (hv : bootBuiltins x = some u) (r : RelV v u) (hn : x ≠ "__name__" := by decide) (hd : (x == ("__debug__" : Str)) = false := by decide) : DE X B (.Name x pos) (dC (.at v)) := de_of (pe_bltn hg hm hv r hn hd)
end

/-! ### operators -/
abbrev RD2 := D → D → GH → DK → Prop
def dOp (r : RD2) (ta tb : TDE) : TDE := fun δ G Q => ta δ G fun x G1 => tb δ G1 fun y G2 => r x y G2 Q
def LR (K : PySem.W.Frag) (r : R2) (r' : RD2) : Prop := ∀ H G x y v u Q Q', RelG K G H → Rp K H x v → Rp K H y u → r' x y G Q → Cn K H Q Q' → r v u H Q'
theorem le_op {K : PySem.W.Frag} {B : Hp} {te1 te2 : TE} {ta tb : TDE} {r : R2} {r' : RD2} (l : LR K r r') (l1 : LE K B te1 ta) (l2 : LE K B te2 tb) : LE K B (tOp r te1 te2) (dOp r' ta tb) := fun σ H δ G Q Q' R h k =>
  l1 σ H δ G _ _ R h fun x H1 d G1 t1 g1 r1 h1 => l2 σ H1 δ G1 _ _ (R.next t1 g1) h1 fun y H2 d2 G2 t2 g2 r2 h2 =>
    l H2 G2 d d2 x y _ _ g2 (r1.mono t2) r2 h2 ((k.mono t1).mono t2)
section
variable {X : Cx} {B : Hp} {a b c : Expr} {ta tb tc : TDE} {pos : Pos}
theorem de_op {op : Operator} {r : R2} {r' : RD2} (ho : OpR X (binaryOp op) r) (l : LR X.K r r') (ha : DE X B a ta) (hb : DE X B b tb) : DE X B (.BinOp a op b pos) (dOp r' ta tb) := by
  obtain ⟨te1, p1, l1⟩ := ha
  obtain ⟨te2, p2, l2⟩ := hb
  exact ⟨_, pe_op ho p1 p2, le_op l l1 l2⟩
theorem de_cmp {op : CmpOp} {r : R2} {r' : RD2} (ho : OpR X (compareOp op) r) (l : LR X.K r r') (ha : DE X B a ta) (hb : DE X B b tb) (hm : behindInMarks op b = false) : DE X B (.Compare a [op] [b] pos) (dOp r' ta tb) := by
  obtain ⟨te1, p1, l1⟩ := ha
  obtain ⟨te2, p2, l2⟩ := hb
  exact ⟨_, pe_cmpR ho p1 p2 hm, le_op l l1 l2⟩
/-- a value that is a truth, as a test -/
def dTest (t : TDE) : TDT := fun δ G Q => t δ G fun d G1 => match d with
  | .at (.bl b) => Q b G1
  | _ => False
theorem lt_test {K : PySem.W.Frag} {te : TE} {t : TDE} (l : LE K B te t) : LT K B (tTest te) (dTest t) := fun σ H δ G Q Q' R h k =>
  l σ H δ G _ _ R h fun x H1 d G1 t1 g1 r1 h1 => by
    split at h1
    · rename_i b
      exact ⟨b, r1.at_, k b H1 G1 t1 g1 h1⟩
    · exact h1.elim
theorem lt_b {K : PySem.W.Frag} {te : TE} {t : TDE} (l : LE K B te t) : LT K B (tB te) (dTest t) := lt_test l
theorem dt_cmp {op : CmpOp} {r : R2} {r' : RD2} (ho : OpR X (compareOp op) r) (l : LR X.K r r') (ha : DE X B a ta) (hb : DE X B b tb) (hm : behindInMarks op b = false) : DT X B (.Compare a [op] [b] pos) (dTest (dOp r' ta tb)) := by
  obtain ⟨te1, p1, l1⟩ := ha
  obtain ⟨te2, p2, l2⟩ := hb
  exact ⟨_, pt_cmpR ho p1 p2 hm, lt_test (le_op l l1 l2)⟩
theorem dt_val {e : Expr} {t : TDE} (h : DE X B e t) (he : ∀ whole, isTrue e X.env whole = (do let v ← whole; standAt e.pos; holding [v] (truthy v)) := by intro _; rfl) : DT X B e (dTest t) := by
  obtain ⟨te, p, l⟩ := h
  exact ⟨_, pt_val p he, lt_b l⟩
/-- a op1 b op2 c -/
def dChain (r r' : RD2) (ta tb tc : TDE) : TDE := fun δ G Q => ta δ G fun x G1 => tb δ G1 fun y G2 => r x y G2 fun z G3 => match z with
  | .at (.bl k) => (k = true → tc δ G3 fun w G4 => r' y w G4 Q) ∧ (k = false → Q (dB false) G3)
  | _ => False
theorem le_chain {K : PySem.W.Frag} {te1 te2 te3 : TE} {r s : R2} {r' s' : RD2} (l : LR K r r') (m : LR K s s') (l1 : LE K B te1 ta) (l2 : LE K B te2 tb) (l3 : LE K B te3 tc) : LE K B (tChain r s te1 te2 te3) (dChain r' s' ta tb tc) := fun σ H δ G Q Q' R h k =>
  l1 σ H δ G _ _ R h fun x H1 d G1 t1 g1 r1 h1 => l2 σ H1 δ G1 _ _ (R.next t1 g1) h1 fun y H2 d2 G2 t2 g2 r2 h2 =>
    l H2 G2 d d2 x y _ _ g2 (r1.mono t2) r2 h2 fun z H3 d3 G3 t3 g3 r3 h3 => by
      split at h3
      · rename_i q
        refine ⟨q, r3.at_, ?_⟩
        cases q with
        | true =>
          rw [if_pos rfl]
          exact l3 σ H3 δ G3 _ _ (((R.next t1 g1).next t2 g2).next t3 g3) (h3.1 rfl) fun w H4 d4 G4 t4 g4 r4 h4 =>
            m H4 G4 d2 d4 y w _ _ g4 ((r2.mono t3).mono t4) r4 h4 ((((k.mono t1).mono t2).mono t3).mono t4)
        | false =>
          rw [if_neg Bool.false_ne_true]
          exact k _ H3 _ G3 ((t1.trans t2).trans t3) g3 (.at _) (h3.2 rfl)
      · exact h3.elim
theorem de_chain {op op' : CmpOp} {r s : R2} {r' s' : RD2} (ho : OpR X (compareOp op) r) (l : LR X.K r r') (ho' : OpR X (compareOp op') s) (m : LR X.K s s') (ha : DE X B a ta) (hb : DE X B b tb) (hc : DE X B c tc)
    (hm : lastMarks [op, op'] [b, c] = false := by with_unfolding_all rfl) : DE X B (.Compare a [op, op'] [b, c] pos) (dChain r' s' ta tb tc) := by
  obtain ⟨te1, p1, l1⟩ := ha
  obtain ⟨te2, p2, l2⟩ := hb
  obtain ⟨te3, p3, l3⟩ := hc
  exact ⟨_, pe_chain ho ho' p1 p2 p3 hm, le_chain l m l1 l2 l3⟩
theorem dt_chain {op op' : CmpOp} {r s : R2} {r' s' : RD2} (ho : OpR X (compareOp op) r) (l : LR X.K r r') (ho' : OpR X (compareOp op') s) (m : LR X.K s s') (ha : DE X B a ta) (hb : DE X B b tb) (hc : DE X B c tc)
    (hm : lastMarks [op, op'] [b, c] = false := by with_unfolding_all rfl) : DT X B (.Compare a [op, op'] [b, c] pos) (dTest (dChain r' s' ta tb tc)) := by
  obtain ⟨te1, p1, l1⟩ := ha
  obtain ⟨te2, p2, l2⟩ := hb
  obtain ⟨te3, p3, l3⟩ := hc
  exact ⟨_, pt_chain ho ho' p1 p2 p3 hm, lt_test (le_chain l m l1 l2 l3)⟩
end

/-! ### what the operators give -/
abbrev zL : Nat := 16777216
theorem zL_eq : zL = sizeLine := sizeLine_eq.symm
section
variable {K : PySem.W.Frag}
/-- ints by a function -/
def dI2 (C : Int → Int → Prop) (g : Int → Int → V) : RD2 := fun x y G Q => match x, y with
  | .at (.int i), .at (.int j) => C i j ∧ Q (.at (g i j)) G
  | _, _ => False
def dI0 (g : Int → Int → V) : RD2 := fun x y G Q => match x, y with
  | .at (.int i), .at (.int j) => Q (.at (g i j)) G
  | _, _ => False
theorem lr_I {C : Int → Int → Prop} {g : Int → Int → V} : LR K (rI C g) (dI2 C g) := fun H G x y v u Q Q' hg rx ry h k => by
  unfold dI2 at h
  split at h
  · rename_i i j
    exact ⟨i, j, rx.at_, ry.at_, h.1, k _ H _ G (Tp.refl H) hg (.at _) h.2⟩
  · exact h.elim
theorem lr_I0 {g : Int → Int → V} : LR K (rI0 g) (dI0 g) := fun H G x y v u Q Q' hg rx ry h k => by
  unfold dI0 at h
  split at h
  · rename_i i j
    exact ⟨i, j, rx.at_, ry.at_, k _ H _ G (Tp.refl H) hg (.at _) h⟩
  · exact h.elim
abbrev rPlus : R2 := rI0 fun i j => .int (i + j)
abbrev rPlusS : R2 := fun x y H Q => ∃ i j, x = .str i ∧ y = .str j ∧ i.length + j.length ≤ sizeLine ∧ Q (.str (i ++ j)) H
def rAddA (K : PySem.W.Frag) : R2 := fun x y H Q => rPlus x y H Q ∨ rPlusS x y H Q ∨ rCatA K x y H Q ∨ rCat x y H Q
theorem op_addA {X : Cx} : OpR X (binaryOp .Add) (rAddA X.K) := op_add.or (op_add_str.or (op_catA.or op_cat))
/-- x + y -/
def dAdd : RD2 := fun x y G Q => match x, y with
  | .at (.int i), .at (.int j) => Q (dI (i + j)) G
  | .at (.str i), .at (.str j) => i.length + j.length ≤ zL ∧ Q (dS (i ++ j)) G
  | .tup xs, .tup ys => xs.length + ys.length ≤ zL ∧ Q (.tup (xs ++ ys)) G
  | .at (.ref p), .at (.ref q) => ∃ xs ys, G p = some (.lst xs) ∧ G q = some (.lst ys) ∧ xs.length + ys.length ≤ zL ∧ ∀ r, G r = none → Q (dR r) (gu G r (.lst (xs ++ ys)))
  | _, _ => False
theorem lr_add : LR K (rAddA K) dAdd := fun H G x y v u Q Q' hg rx ry h k => by
  unfold dAdd at h
  split at h
  · rename_i i j
    exact .inl ⟨i, j, rx.at_, ry.at_, k _ H _ G (Tp.refl H) hg (.at _) h⟩
  · rename_i i j
    exact .inr (.inl ⟨i, j, rx.at_, ry.at_, by rw [sizeLine_eq]; exact h.1, k _ H _ G (Tp.refl H) hg (.at _) h.2⟩)
  · rename_i xs ys
    obtain ⟨a, vs, rfl, hs, r1⟩ := rx.tup_
    obtain ⟨b, us, rfl, ht, r2⟩ := ry.tup_
    have e1 := r1.length
    have e2 := r2.length
    refine .inr (.inr (.inl ⟨a, b, vs, us, rfl, rfl, hs, ht, by rw [sizeLine_eq, ← e1, ← e2]; exact h.1, fun e => ?_, fun _ e => ?_, fun _ _ p hp => ?_⟩))
    · subst e
      cases r1
      exact k _ H (.tup ys) G (Tp.refl H) hg (.tup ht r2) h.2
    · subst e
      cases r2
      refine k _ H (.tup xs) G (Tp.refl H) hg (.tup hs r1) ?_
      have h2 := h.2
      rw [List.append_nil] at h2
      exact h2
    · have tp : Tp H (upd H p (.tup (vs ++ us))) := Tp.new hp
      have g2 : RelG K (gu G p (.raw (.tup (vs ++ us)))) (upd H p (.tup (vs ++ us))) := hg.new hp ⟨rfl, rfl⟩
      exact k _ _ (.tup (xs ++ ys)) G tp (g2.le (Le.new (hg.fresh hp))) (.tup (SqT.of upd_same) ((r1.mono tp).app (r2.mono tp))) h.2
  · rename_i p q
    obtain ⟨xs, ys, e1, e2, hz, h⟩ := h
    obtain ⟨vs, f1, r1⟩ := hg.lst e1
    obtain ⟨us, f2, r2⟩ := hg.lst e2
    refine .inr (.inr (.inr ⟨p, q, vs, us, rx.at_, ry.at_, f1, f2, by rw [sizeLine_eq, ← r1.length, ← r2.length]; exact hz, fun r hr => ?_⟩))
    have tp : Tp H (upd H r (.lst (vs ++ us))) := Tp.new hr
    exact k _ _ (dR r) _ tp (hg.new (m := .lst (xs ++ ys)) hr ⟨rfl, _, rfl, (r1.mono tp).app (r2.mono tp)⟩) (.at _) (h r (hg.fresh hr))
  · exact h.elim
/-- x * y: numbers; a list so often -/
def rMulA : R2 := fun x y H Q => rI CMul (fun i j => .int (i * j)) x y H Q ∨ rRep x y H Q
theorem op_mulA {X : Cx} : OpR X (binaryOp .Mult) rMulA := op_mul.or op_rep
def dMul : RD2 := fun x y G Q => match x, y with
  | .at (.int i), .at (.int j) => CMul i j ∧ Q (dI (i * j)) G
  | .at (.ref p), .at (.int n) => ∃ xs, G p = some (.lst xs) ∧ 0 ≤ n ∧ n ≤ 1000 ∧ xs.length ≤ 1000 ∧ ∀ r, G r = none → Q (dR r) (gu G r (.lst (List.replicate n.toNat xs).flatten))
  | _, _ => False
theorem Rps.rep {H : Hp} {ds : List D} {vs : List V} (r : Rps K H ds vs) : ∀ n, Rps K H (List.replicate n ds).flatten (List.replicate n vs).flatten
  | 0 => by simpa using Rps.nil
  | n + 1 => by
    rw [List.replicate_succ, List.replicate_succ, List.flatten_cons, List.flatten_cons]
    exact r.app (Rps.rep r n)
theorem lr_mul : LR K rMulA dMul := fun H G x y v u Q Q' hg rx ry h k => by
  unfold dMul at h
  split at h
  · rename_i i j
    exact .inl ⟨i, j, rx.at_, ry.at_, h.1, k _ H _ G (Tp.refl H) hg (.at _) h.2⟩
  · rename_i p n
    obtain ⟨xs, e1, h0, h1, h2, h⟩ := h
    obtain ⟨vs, f1, r1⟩ := hg.lst e1
    have hl : vs.length * n.toNat ≤ 1000 * 1000 := Nat.mul_le_mul (by rw [← r1.length]; exact h2) (by omega)
    refine .inr ⟨p, n, vs, rx.at_, ry.at_, f1, by omega, by omega, by rw [sizeLine_eq]; omega, fun r hr => ?_⟩
    have tp : Tp H (upd H r (.lst (List.replicate n.toNat vs).flatten)) := Tp.new hr
    exact k _ _ (dR r) _ tp (hg.new (m := .lst (List.replicate n.toNat xs).flatten) hr ⟨rfl, _, rfl, (r1.mono tp).rep _⟩) (.at _) (h r (hg.fresh hr))
  · exact h.elim

/-! ### == -/
def shp (d : PyData) : Bool := SeqAt.shaped d
def rEqA (K : PySem.W.Frag) : R2 := fun x y H Q => rEq x y H Q ∨ rEqD K x y H Q
def rNeA (K : PySem.W.Frag) : R2 := fun x y H Q => rNe x y H Q ∨ rNeD K x y H Q
theorem op_eqA {X : Cx} (hu : X.A.units + 64 < cLine) : OpR X (compareOp .Eq) (rEqA X.K) := op_eq.or (op_eqD hu)
theorem op_neA {X : Cx} (hu : X.A.units + 64 < cLine) : OpR X (compareOp .NotEq) (rNeA X.K) := op_ne.or (op_neD hu)
/-- what == tells; f: the answer turned -/
def dEqF (f : Bool → Bool) : RD2 := fun x y G Q => match x, y with
  | .at (.int i), .at (.int j) => Q (dB (f (decide (i = j)))) G
  | .at (.str i), .at (.str j) => Q (dB (f (decide (i = j)))) G
  | .at (.bl i), .at (.bl j) => Q (dB (f (decide (i = j)))) G
  | x, y => ∃ a b, DPy G x a ∧ DPy G y b ∧ shp a = true ∧ shp b = true ∧ Q (dB (f (PyData.eqv a b))) G
abbrev dEq : RD2 := dEqF id
abbrev dNe : RD2 := dEqF not
theorem lr_eq : LR K (rEqA K) dEq := fun H G x y v u Q Q' hg rx ry h k => by
  unfold dEq dEqF at h
  split at h
  · rename_i i j
    have e : decide (V.int i = V.int j) = decide (i = j) := by simp
    rw [rx.at_, ry.at_]
    exact .inl ⟨rfl, by rw [e]; exact k _ H _ G (Tp.refl H) hg (.at _) h⟩
  · rename_i i j
    have e : decide (V.str i = V.str j) = decide (i = j) := by simp
    rw [rx.at_, ry.at_]
    exact .inl ⟨rfl, by rw [e]; exact k _ H _ G (Tp.refl H) hg (.at _) h⟩
  · rename_i i j
    have e : decide (V.bl i = V.bl j) = decide (i = j) := by simp
    rw [rx.at_, ry.at_]
    exact .inl ⟨rfl, by rw [e]; exact k _ H _ G (Tp.refl H) hg (.at _) h⟩
  · obtain ⟨a, b, h1, h2, s1, s2, h⟩ := h
    exact .inr ⟨a, b, h1.dp hg rx, h2.dp hg ry, s1, s2, k _ H _ G (Tp.refl H) hg (.at _) h⟩
theorem lr_ne : LR K (rNeA K) dNe := fun H G x y v u Q Q' hg rx ry h k => by
  unfold dNe dEqF at h
  split at h
  · rename_i i j
    have e : decide (V.int i = V.int j) = decide (i = j) := by simp
    rw [rx.at_, ry.at_]
    exact .inl ⟨rfl, by rw [e]; exact k _ H _ G (Tp.refl H) hg (.at _) h⟩
  · rename_i i j
    have e : decide (V.str i = V.str j) = decide (i = j) := by simp
    rw [rx.at_, ry.at_]
    exact .inl ⟨rfl, by rw [e]; exact k _ H _ G (Tp.refl H) hg (.at _) h⟩
  · rename_i i j
    have e : decide (V.bl i = V.bl j) = decide (i = j) := by simp
    rw [rx.at_, ry.at_]
    exact .inl ⟨rfl, by rw [e]; exact k _ H _ G (Tp.refl H) hg (.at _) h⟩
  · obtain ⟨a, b, h1, h2, s1, s2, h⟩ := h
    exact .inr ⟨a, b, h1.dp hg rx, h2.dp hg ry, s1, s2, k _ H _ G (Tp.refl H) hg (.at _) h⟩
/-! ### is None -/
abbrev rIsN' : R2 := fun x y H Q => y = .non ∧ Q (.bl (decide (x = .non))) H
abbrev rNotN' : R2 := fun x y H Q => y = .non ∧ Q (.bl (!decide (x = .non))) H
def isN : D → Bool
  | .at .non => true
  | _ => false
def dIsF (f : Bool → Bool) : RD2 := fun x y G Q => match y with
  | .at .non => Q (dB (f (isN x))) G
  | _ => False
abbrev dIs : RD2 := dIsF id
abbrev dIsnt : RD2 := dIsF not
theorem isN_rp {H : Hp} {x : D} {v : V} (r : Rp K H x v) : decide (v = .non) = isN x := by
  cases x with
  | «at» w => rw [r.at_]; cases w <;> simp [isN]
  | tup l =>
    obtain ⟨a, vs, rfl, _, _⟩ := r.tup_
    simp [isN]
  | frl l =>
    obtain ⟨a, vs, rfl, _, _⟩ := r.frl_
    simp [isN]
theorem lr_is : LR K rIsN' dIs := fun H G x y v u Q Q' hg rx ry h k => by
  unfold dIs dIsF at h
  split at h
  · exact ⟨ry.at_, by rw [isN_rp rx]; exact k _ H _ G (Tp.refl H) hg (.at _) h⟩
  · exact h.elim
theorem lr_isnt : LR K rNotN' dIsnt := fun H G x y v u Q Q' hg rx ry h k => by
  unfold dIsnt dIsF at h
  split at h
  · exact ⟨ry.at_, by rw [isN_rp rx]; exact k _ H _ G (Tp.refl H) hg (.at _) h⟩
  · exact h.elim

/-! ### in -/
def valD {κ : Type} [DecidableEq κ] (kvs : List (κ × D)) (k : κ) : Option D := (kvs.find? fun kv => decide (kv.1 = k)).map (·.2)
def putD {κ : Type} [DecidableEq κ] (kvs : List (κ × D)) (k : κ) (d : D) : List (κ × D) := if (kvs.any fun kv => decide (kv.1 = k)) = true then kvs.map fun kv => if kv.1 = k then (kv.1, d) else kv else kvs ++ [(k, d)]
def dropD {κ : Type} [DecidableEq κ] (kvs : List (κ × D)) (k : κ) : List (κ × D) := kvs.filter fun kv => decide (kv.1 ≠ k)
theorem KRel.val {H : Hp} : ∀ {kvs : List (Key × D)} {ws : List (Key × V)} (r : KRel K H kvs ws) (k : Key), (∃ d v, valD kvs k = some d ∧ valV ws k = some v ∧ Rp K H d v) ∨ (valD kvs k = none ∧ valV ws k = none)
  | _, _, .nil, k => .inr ⟨rfl, rfl⟩
  | (q, d) :: r, (q', v) :: r', .cons h t, k => by
    obtain ⟨e, hd⟩ := h
    have e : q = q' := e
    subst e
    by_cases hk : q = k
    · exact .inl ⟨d, v, by simp [valD, List.find?_cons, hk], by rw [valV_pos (p := (q, v)) hk], hd⟩
    · have ih := KRel.val t k
      rw [valV_neg (p := (q, v)) hk]
      have e2 : valD ((q, d) :: r) k = valD r k := by simp [valD, List.find?_cons, hk]
      rw [e2]
      exact ih
theorem KRel.any {H : Hp} : ∀ {kvs : List (Key × D)} {ws : List (Key × V)} (r : KRel K H kvs ws) (k : Key), (kvs.any fun kv => decide (kv.1 = k)) = ws.any fun kv => decide (kv.1 = k)
  | _, _, .nil, k => rfl
  | (q, d) :: r, (q', v) :: r', .cons h t, k => by
    obtain ⟨e, hd⟩ := h
    have e : q = q' := e
    subst e
    rw [List.any_cons, List.any_cons, KRel.any t k]
theorem KRel.put {H : Hp} {d : D} {v : V} (hd : Rp K H d v) {kvs : List (Key × D)} {ws : List (Key × V)} (r : KRel K H kvs ws) (k : Key) : KRel K H (putD kvs k d) (putK ws k v) := by
  have mp : ∀ {kvs : List (Key × D)} {ws : List (Key × V)}, KRel K H kvs ws → KRel K H (kvs.map fun kv => if kv.1 = k then (kv.1, d) else kv) (ws.map fun kv => if kv.1 = k then (kv.1, v) else kv) := by
    intro kvs ws r
    induction r with
    | nil => exact .nil
    | cons h t ih =>
      rename_i p q _ _
      obtain ⟨e, hx⟩ := h
      rw [List.map_cons, List.map_cons]
      refine .cons ?_ ih
      rw [← e]
      by_cases z : p.1 = k
      · rw [if_pos z, if_pos z]; exact ⟨rfl, hd⟩
      · rw [if_neg z, if_neg z]; exact ⟨e, hx⟩
  have ap : ∀ {kvs : List (Key × D)} {ws : List (Key × V)}, KRel K H kvs ws → KRel K H (kvs ++ [(k, d)]) (ws ++ [(k, v)]) := by
    intro kvs ws r
    induction r with
    | nil => exact .cons ⟨rfl, hd⟩ .nil
    | cons h t ih => exact .cons h ih
  unfold putD putK
  rw [KRel.any r k]
  split
  · exact mp r
  · exact ap r
theorem KRel.drop {H : Hp} {kvs : List (Key × D)} {ws : List (Key × V)} (r : KRel K H kvs ws) (k : Key) : KRel K H (dropD kvs k) (dropK ws k) := by
  unfold dropD dropK
  induction r with
  | nil => exact .nil
  | cons h t ih =>
    rename_i p q _ _
    obtain ⟨e, hx⟩ := h
    by_cases z : p.1 = k
    · have z' : q.1 = k := e ▸ z
      rw [List.filter_cons_of_neg (by simp [z]), List.filter_cons_of_neg (by simp [z'])]
      exact ih
    · have z' : ¬ q.1 = k := fun c => z (e.trans c)
      rw [List.filter_cons_of_pos (by simp [z]), List.filter_cons_of_pos (by simp [z'])]
      exact .cons ⟨e, hx⟩ ih
theorem KRel.length {H : Hp} {kvs : List (Key × D)} {ws : List (Key × V)} (r : KRel K H kvs ws) : kvs.length = ws.length := Paired.length r

/-- a datum as a key -/
def keyOf : D → Option Key
  | .at (.int i) => some (.inl i)
  | .at (.str s) => some (.inr s)
  | _ => none
def flatD : D → Bool
  | .at v => flatV v
  | _ => false
def toV : D → V
  | .at v => v
  | _ => .non
def inD (x : D) (ys : List D) : Bool := inV (toV x) (ys.map toV)
theorem flat_vs {H : Hp} : ∀ {ds : List D} {vs : List V}, ds.all flatD = true → Rps K H ds vs → vs = ds.map toV ∧ vs.all flatV = true
  | [], _, _, .nil => ⟨rfl, rfl⟩
  | d :: ds, _, h, .cons r t => by
    rw [List.all_cons, Bool.and_eq_true] at h
    obtain ⟨e, f⟩ := flat_vs h.2 t
    cases d with
    | «at» w =>
      have e1 := r.at_
      subst e1
      exact ⟨by rw [e]; rfl, by rw [List.all_cons, f, Bool.and_true]; exact h.1⟩
    | tup l => exact absurd h.1 (by simp [flatD])
    | frl l => exact absurd h.1 (by simp [flatD])
theorem flat_v {H : Hp} {d : D} {v : V} (h : flatD d = true) (r : Rp K H d v) : v = toV d ∧ flatV v = true := by
  cases d with
  | «at» w => rw [r.at_]; exact ⟨rfl, h⟩
  | tup l => cases h
  | frl l => cases h
/-- in, of a dict -/
theorem op_in_dict {X : Cx} (hu : X.A.units + 1 < cLine) : OpR X (compareOp .In) (fun x y H Q => ∃ a o, y = .ref a ∧ DGet H a x o ∧ Q (.bl o.isSome) H) := by
  intro pins s σ H x y v u Q I rx ry h
  obtain ⟨a, o, rfl, g, q⟩ := h
  cases ry
  exact d_in hu I g rx fun s' I' => ⟨.bl _, H, I', rfl, q⟩
theorem op_notin_dict {X : Cx} (hu : X.A.units + 1 < cLine) : OpR X (compareOp .NotIn) (fun x y H Q => ∃ a o, y = .ref a ∧ DGet H a x o ∧ Q (.bl (!o.isSome)) H) := by
  intro pins s σ H x y v u Q I rx ry h
  obtain ⟨a, o, rfl, g, q⟩ := h
  cases ry
  exact d_notIn hu I g rx fun s' I' => ⟨.bl _, H, I', rfl, q⟩
def rInA (K : PySem.W.Frag) (f : Bool → Bool) (neg : Bool) : R2 := fun x y H Q => rIn K neg x y H Q ∨ (∃ a o, y = .ref a ∧ DGet H a x o ∧ Q (.bl (f o.isSome)) H) ∨ ∃ (c : Nat) (z : Str), x = .str ⟨#[c]⟩ ∧ y = .str z ∧ Q (.bl (f (decide (c ∈ z.cps.toList)))) H
theorem op_inA {X : Cx} (hu : X.A.units + 1 < cLine) : OpR X (compareOp .In) (rInA X.K id false) := op_in_seq.or ((op_in_dict hu).or op_in_sign)
theorem op_notinA {X : Cx} (hu : X.A.units + 1 < cLine) : OpR X (compareOp .NotIn) (rInA X.K not true) := op_notIn_seq.or ((op_notin_dict hu).or op_notIn_sign)
def dInF (f : Bool → Bool) : RD2 := fun x y G Q => match y with
  | .tup ys => flatD x = true ∧ ys.all flatD = true ∧ Q (dB (f (inD x ys))) G
  | .at (.ref p) => (∃ ys, G p = some (.lst ys) ∧ flatD x = true ∧ ys.all flatD = true ∧ Q (dB (f (inD x ys))) G) ∨ ∃ kvs k, G p = some (.dct kvs) ∧ keyOf x = some k ∧ Q (dB (f (valD kvs k).isSome)) G
  | .at (.str z) => ∃ c, x = dS ⟨#[c]⟩ ∧ Q (dB (f (decide (c ∈ z.cps.toList)))) G
  | _ => False
abbrev dIn : RD2 := dInF id
abbrev dNotin : RD2 := dInF not
theorem keyOf_rp {H : Hp} {x : D} {k : Key} {v : V} (h : keyOf x = some k) (r : Rp K H x v) : v = kV k := by
  unfold keyOf at h
  split at h
  · cases h; exact r.at_
  · cases h; exact r.at_
  · cases h
theorem lr_inF {f : Bool → Bool} {neg : Bool} (hf : ∀ b, (if neg = true then !b else b) = f b) : LR K (rInA K f neg) (dInF f) := fun H G x y v u Q Q' hg rx ry h k => by
  unfold dInF at h
  split at h
  · rename_i ys
    obtain ⟨h1, h2, h⟩ := h
    obtain ⟨a, vs, rfl, hs, r1⟩ := ry.tup_
    obtain ⟨e, f2⟩ := flat_vs h2 r1
    obtain ⟨e1, f1⟩ := flat_v h1 rx
    refine .inl ⟨a, vs, rfl, .inr hs, f1, f2, ?_⟩
    have e2 : inV v vs = inD x ys := by rw [e, e1]; rfl
    have z := k _ H _ G (Tp.refl H) hg (.at _) h
    rw [← hf, ← e2] at z
    cases neg <;> exact z
  · rename_i p
    rcases h with ⟨ys, e0, h1, h2, h⟩ | ⟨kvs, q, e0, h1, h⟩
    · obtain ⟨vs, e3, r1⟩ := hg.lst e0
      obtain ⟨e, f2⟩ := flat_vs h2 r1
      obtain ⟨e1, f1⟩ := flat_v h1 rx
      refine .inl ⟨p, vs, ry.at_, .inl (SqL.of e3), f1, f2, ?_⟩
      have e2 : inV v vs = inD x ys := by rw [e, e1]; rfl
      have z := k _ H _ G (Tp.refl H) hg (.at _) h
      rw [← hf, ← e2] at z
      cases neg <;> exact z
    · obtain ⟨ws, e3, r1⟩ := hg.dct e0
      refine .inr (.inl ⟨p, valV ws q, ry.at_, ?_, ?_⟩)
      · rw [keyOf_rp h1 rx]; exact DGet.k e3
      · have e4 : (valV ws q).isSome = (valD kvs q).isSome := by
          rcases KRel.val r1 q with ⟨d, w, a1, a2, _⟩ | ⟨a1, a2⟩
          · rw [a1, a2]; rfl
          · rw [a1, a2]; rfl
        rw [e4]
        exact k _ H _ G (Tp.refl H) hg (.at _) h
  · rename_i z
    obtain ⟨c, rfl, h⟩ := h
    exact .inr (.inr ⟨c, z, rx.at_, ry.at_, k _ H _ G (Tp.refl H) hg (.at _) h⟩)
  · exact h.elim
theorem lr_in : LR K (rInA K id false) dIn := lr_inF fun b => by cases b <;> rfl
theorem lr_notin : LR K (rInA K not true) dNotin := lr_inF fun b => by cases b <;> rfl
end

/-! ### and, or, not -/
section
variable {X : Cx} {B : Hp} {a b c : Expr} {ta tb tc : TDT} {rest : List Expr} {pos : Pos} {K : PySem.W.Frag}
def dAnd (t u : TDT) : TDT := fun δ G Q => t δ G fun c G1 => (c = true → u δ G1 Q) ∧ (c = false → Q false G1)
def dOr (t u : TDT) : TDT := fun δ G Q => t δ G fun c G1 => (c = true → Q true G1) ∧ (c = false → u δ G1 Q)
def dNot (t : TDT) : TDT := fun δ G Q => t δ G fun c G1 => Q (!c) G1
theorem dw_and1 (ha : DT X B a ta) : DW X B (.BoolOp .And [a] pos) ta := by
  obtain ⟨te, p, l⟩ := ha
  exact ⟨_, pw_and1 p, l⟩
theorem dw_or1 (ha : DT X B a ta) : DW X B (.BoolOp .Or [a] pos) ta := by
  obtain ⟨te, p, l⟩ := ha
  exact ⟨_, pw_or1 p, l⟩
theorem dw_and (ha : DT X B a ta) (hb : DW X B (.BoolOp .And (b :: rest) pos) tb) : DW X B (.BoolOp .And (a :: b :: rest) pos) (dAnd ta tb) := by
  obtain ⟨te, p, l⟩ := ha
  obtain ⟨te2, p2, l2⟩ := hb
  refine ⟨_, pw_and p p2, fun σ H δ G Q Q' R h k => l σ H δ G _ _ R h fun c H1 G1 t1 g1 h1 => ?_⟩
  cases c with
  | true => rw [if_pos rfl]; exact l2 σ H1 δ G1 _ _ (R.next t1 g1) (h1.1 rfl) (k.mono t1)
  | false => rw [if_neg Bool.false_ne_true]; exact k _ H1 G1 t1 g1 (h1.2 rfl)
theorem dw_or (ha : DT X B a ta) (hb : DW X B (.BoolOp .Or (b :: rest) pos) tb) : DW X B (.BoolOp .Or (a :: b :: rest) pos) (dOr ta tb) := by
  obtain ⟨te, p, l⟩ := ha
  obtain ⟨te2, p2, l2⟩ := hb
  refine ⟨_, pw_or p p2, fun σ H δ G Q Q' R h k => l σ H δ G _ _ R h fun c H1 G1 t1 g1 h1 => ?_⟩
  cases c with
  | true => rw [if_pos rfl]; exact k _ H1 G1 t1 g1 (h1.1 rfl)
  | false => rw [if_neg Bool.false_ne_true]; exact l2 σ H1 δ G1 _ _ (R.next t1 g1) (h1.2 rfl) (k.mono t1)
theorem DW.dt (h : DW X B a ta) : DT X B a ta := by
  obtain ⟨te, p, l⟩ := h
  exact ⟨_, p.pt, l⟩
theorem dt_not (ha : DT X B a ta) : DT X B (.UnaryOp .Not a pos) (dNot ta) := by
  obtain ⟨te, p, l⟩ := ha
  exact ⟨_, pt_not p, fun σ H δ G Q Q' R h k => l σ H δ G _ _ R h fun c H1 G1 t1 g1 h1 => k _ H1 G1 t1 g1 h1⟩
end
section
variable {X : Cx} {B : Hp} {a b c : Expr} {ta tb : TDE} {tc : TDT} {rest : List Expr} {pos : Pos} {K : PySem.W.Frag}
/-- .. as values, of truths -/
def dAndV (t u : TDE) : TDE := fun δ G Q => t δ G fun d G1 => match d with
  | .at (.bl c) => (c = true → u δ G1 Q) ∧ (c = false → Q (dB false) G1)
  | _ => False
def dOrV (t u : TDE) : TDE := fun δ G Q => t δ G fun d G1 => match d with
  | .at (.bl c) => (c = true → Q (dB true) G1) ∧ (c = false → u δ G1 Q)
  | _ => False
def dNotV (t : TDE) : TDE := fun δ G Q => t δ G fun d G1 => match d with
  | .at (.bl c) => Q (dB (!c)) G1
  | _ => False
theorem de_one {op} (h : DE X B a ta) : DE X B (.BoolOp op [a] pos) ta := by
  obtain ⟨te, p, l⟩ := h
  exact ⟨_, pe_one p, l⟩
theorem de_and (ha : DE X B a ta) (hb : DE X B (.BoolOp .And (b :: rest) pos) tb) : DE X B (.BoolOp .And (a :: b :: rest) pos) (dAndV ta tb) := by
  obtain ⟨te, p, l⟩ := ha
  obtain ⟨te2, p2, l2⟩ := hb
  refine ⟨_, pe_and p p2, fun σ H δ G Q Q' R h k => l σ H δ G _ _ R h fun x H1 d G1 t1 g1 r1 h1 => ?_⟩
  split at h1
  · rename_i c
    refine ⟨c, r1.at_, ?_⟩
    cases c with
    | true => rw [if_pos rfl]; exact l2 σ H1 δ G1 _ _ (R.next t1 g1) (h1.1 rfl) (k.mono t1)
    | false => rw [if_neg Bool.false_ne_true]; exact k _ H1 _ G1 t1 g1 (.at _) (h1.2 rfl)
  · exact h1.elim
theorem de_or (ha : DE X B a ta) (hb : DE X B (.BoolOp .Or (b :: rest) pos) tb) : DE X B (.BoolOp .Or (a :: b :: rest) pos) (dOrV ta tb) := by
  obtain ⟨te, p, l⟩ := ha
  obtain ⟨te2, p2, l2⟩ := hb
  refine ⟨_, pe_or p p2, fun σ H δ G Q Q' R h k => l σ H δ G _ _ R h fun x H1 d G1 t1 g1 r1 h1 => ?_⟩
  split at h1
  · rename_i c
    refine ⟨c, r1.at_, ?_⟩
    cases c with
    | true => rw [if_pos rfl]; exact k _ H1 _ G1 t1 g1 (.at _) (h1.1 rfl)
    | false => rw [if_neg Bool.false_ne_true]; exact l2 σ H1 δ G1 _ _ (R.next t1 g1) (h1.2 rfl) (k.mono t1)
  · exact h1.elim
theorem de_not (ha : DE X B a ta) : DE X B (.UnaryOp .Not a pos) (dNotV ta) := by
  obtain ⟨te, p, l⟩ := ha
  refine ⟨_, pe_not p, fun σ H δ G Q Q' R h k => l σ H δ G _ _ R h fun x H1 d G1 t1 g1 r1 h1 => ?_⟩
  split at h1
  · rename_i c
    exact ⟨c, r1.at_, k _ H1 _ G1 t1 g1 (.at _) h1⟩
  · exact h1.elim
def dIfE (t : TDT) (ta tb : TDE) : TDE := fun δ G Q => t δ G fun c G1 => (c = true → ta δ G1 Q) ∧ (c = false → tb δ G1 Q)
theorem de_if (hc : DT X B c tc) (ha : DE X B a ta) (hb : DE X B b tb) : DE X B (.IfExp c a b pos) (dIfE tc ta tb) := by
  obtain ⟨te, p, l⟩ := hc
  obtain ⟨te1, p1, l1⟩ := ha
  obtain ⟨te2, p2, l2⟩ := hb
  refine ⟨_, pe_ifExp p p1 p2, fun σ H δ G Q Q' R h k => l σ H δ G _ _ R h fun c H1 G1 t1 g1 h1 => ?_⟩
  cases c with
  | true => rw [if_pos rfl]; exact l1 σ H1 δ G1 _ _ (R.next t1 g1) (h1.1 rfl) (k.mono t1)
  | false => rw [if_neg Bool.false_ne_true]; exact l2 σ H1 δ G1 _ _ (R.next t1 g1) (h1.2 rfl) (k.mono t1)
end
/-! ### argument lists, displays -/
def dNil : TDA := fun _ G Q => Q [] G
def dCons (ta : TDE) (tr : TDA) : TDA := fun δ G Q => ta δ G fun x G1 => tr δ G1 fun xs G2 => Q (x :: xs) G2
section
variable {X : Cx} {B : Hp} {e : Expr} {es : List Expr} {te : TDE} {t : TDA} {pos : Pos}
theorem da_nil : DA X B [] dNil := ⟨_, pa_nil, fun σ H δ G Q Q' R h k => k _ H _ G (Tp.refl H) R.g .nil h⟩
theorem da_cons (ha : DE X B e te) (hr : DA X B es t) (hs : starEach (e :: es) X.env = (false, eval e X.env) :: starEach es X.env := by rfl) : DA X B (e :: es) (dCons te t) := by
  obtain ⟨t1, p1, l1⟩ := ha
  obtain ⟨t2, p2, l2⟩ := hr
  refine ⟨_, pa_cons p1 p2 hs, fun σ H δ G Q Q' R h k => l1 σ H δ G _ _ R h fun x H1 d G1 t1 g1 r1 h1 => ?_⟩
  exact l2 σ H1 δ G1 _ _ (R.next t1 g1) h1 fun xs H2 ds G2 t2 g2 r2 h2 => k _ H2 _ G2 (t1.trans t2) g2 (.cons (r1.mono t2) r2) h2
def dTup (t : TDA) : TDE := fun δ G Q => t δ G fun xs G1 => xs.length ≤ zL ∧ Q (.tup xs) G1
def dLst (t : TDA) : TDE := fun δ G Q => t δ G fun xs G1 => xs.length ≤ zL ∧ ∀ p, G1 p = none → Q (dR p) (gu G1 p (.lst xs))
theorem new_tup {K : PySem.W.Frag} {G : GH} {H : Hp} {p : Addr} {ds : List D} {vs : List V} {Q : DK} {Q' : VK} (g : RelG K G H) (r : Rps K H ds vs) (hp : H p = none) (h : Q (.tup ds) G) (k : Cn K H Q Q') : Q' (.ref p) (upd H p (.tup vs)) := by
  have tp : Tp H (upd H p (.tup vs)) := Tp.new hp
  have g2 : RelG K (gu G p (.raw (.tup vs))) (upd H p (.tup vs)) := g.new hp ⟨rfl, rfl⟩
  exact k _ _ (.tup ds) G tp (g2.le (Le.new (g.fresh hp))) (.tup (SqT.of upd_same) (r.mono tp)) h
theorem new_lst {K : PySem.W.Frag} {G : GH} {H : Hp} {p : Addr} {ds : List D} {vs : List V} {Q : DK} {Q' : VK} (g : RelG K G H) (r : Rps K H ds vs) (hp : H p = none) (h : ∀ p, G p = none → Q (dR p) (gu G p (.lst ds))) (k : Cn K H Q Q') : Q' (.ref p) (upd H p (.lst vs)) := by
  have tp : Tp H (upd H p (.lst vs)) := Tp.new hp
  exact k _ _ (dR p) _ tp (g.new (m := .lst ds) hp ⟨rfl, _, rfl, r.mono tp⟩) (.at _) (h p (g.fresh hp))
theorem new_dct {K : PySem.W.Frag} {G : GH} {H : Hp} {p : Addr} {ds : List (Key × D)} {vs : List (Key × V)} {Q : DK} {Q' : VK} (g : RelG K G H) (r : KRel K H ds vs) (hp : H p = none) (h : ∀ p, G p = none → Q (dR p) (gu G p (.dct ds))) (k : Cn K H Q Q') : Q' (.ref p) (upd H p (.dK vs)) := by
  have tp : Tp H (upd H p (.dK vs)) := Tp.new hp
  exact k _ _ (dR p) _ tp (g.new (m := .dct ds) hp ⟨rfl, _, rfl, KRel.mono r tp⟩) (.at _) (h p (g.fresh hp))
theorem de_tup {x1} (h : DA X B es t) : DE X B (.Tuple es x1 pos) (dTup t) := by
  obtain ⟨te, p, l⟩ := h
  refine ⟨_, pe_tup p, fun σ H δ G Q Q' R h k => l σ H δ G _ _ R h fun xs H1 ds G1 t1 g1 r1 h1 => ?_⟩
  exact ⟨by rw [← r1.length, ← zL_eq]; exact h1.1, fun p hp => new_tup g1 r1 hp h1.2 (k.mono t1)⟩
theorem de_lst (h : DA X B es t) : DE X B (.List es pos) (dLst t) := by
  obtain ⟨te, p, l⟩ := h
  refine ⟨_, pe_lst p, fun σ H δ G Q Q' R h k => l σ H δ G _ _ R h fun xs H1 ds G1 t1 g1 r1 h1 => ?_⟩
  exact ⟨by rw [← r1.length, ← zL_eq]; exact h1.1, fun p hp => new_lst g1 r1 hp h1.2 (k.mono t1)⟩
/-- {} -/
def dDictN : TDE := fun _ G Q => ∀ p, G p = none → Q (dR p) (gu G p (.dct []))
theorem de_dictN : DE X B (.Dict [] [] pos) dDictN := ⟨_, pe_dnewK, fun σ H δ G Q Q' R h k p hp => new_dct R.g .nil hp h k⟩
end
/-! ### x[i], x[lo:hi] -/
theorem rpAt {K : PySem.W.Frag} {H : Hp} {ds : List D} {vs : List V} {i : Int} {d : D} (r : Rps K H ds vs) (h : atI ds i = some d) : ∃ v, atI vs i = some v ∧ Rp K H d v := by
  unfold atI at h ⊢
  rw [← r.length]
  cases e : ixN ds.length i with
  | none => rw [e] at h; cases h
  | some j =>
    rw [e] at h
    exact r.get h
/-- the i-th item, from the end if negative -/
def dIx : RD2 := fun x y G Q => match x, y with
  | .tup xs, .at (.int i) => ∃ d, atI xs i = some d ∧ Q d G
  | .frl xs, .at (.int i) => ∃ d, atI xs i = some d ∧ Q d G
  | .at (.ref p), .at (.int i) => ∃ xs d, G p = some (.lst xs) ∧ atI xs i = some d ∧ Q d G
  | .at (.str z), .at (.int i) => z.length ≤ zL ∧ ∃ c, atI z.cps.toList i = some c ∧ Q (dS ⟨#[c]⟩) G
  | _, _ => False
theorem lr_ix {K : PySem.W.Frag} : LR K (rIx K) dIx := fun H G x y v u Q Q' hg rx ry h k => by
  unfold dIx at h
  split at h
  · rename_i xs i
    obtain ⟨d, e, h⟩ := h
    obtain ⟨a, vs, rfl, hs, r1⟩ := rx.tup_
    obtain ⟨w, e1, r2⟩ := rpAt r1 e
    exact .inr (.inl ⟨a, vs, i, w, rfl, ry.at_, hs, e1, k _ H d G (Tp.refl H) hg r2 h⟩)
  · rename_i xs i
    obtain ⟨d, e, h⟩ := h
    obtain ⟨a, vs, rfl, hs, r1⟩ := rx.frl_
    obtain ⟨w, e1, r2⟩ := rpAt r1 e
    exact .inl ⟨a, vs, i, w, rfl, ry.at_, hs.sql, e1, k _ H d G (Tp.refl H) hg r2 h⟩
  · rename_i p i
    obtain ⟨xs, d, e0, e, h⟩ := h
    obtain ⟨vs, e3, r1⟩ := hg.lst e0
    obtain ⟨w, e1, r2⟩ := rpAt r1 e
    exact .inl ⟨p, vs, i, w, rx.at_, ry.at_, SqL.of e3, e1, k _ H d G (Tp.refl H) hg r2 h⟩
  · rename_i z i
    obtain ⟨h1, c, e, h⟩ := h
    exact .inr (.inr ⟨z, i, c, rx.at_, ry.at_, by rw [sizeLine_eq]; exact h1, e, k _ H _ G (Tp.refl H) hg (.at _) h⟩)
  · exact h.elim
section
variable {X : Cx} {B : Hp} {a b : Expr} {ta tb : TDE} {pos : Pos}
theorem de_ix (ha : DE X B a ta) (hb : DE X B b tb) (hs : PlainIx b) : DE X B (.Subscript a b pos) (dOp dIx ta tb) := by
  obtain ⟨te1, p1, l1⟩ := ha
  obtain ⟨te2, p2, l2⟩ := hb
  exact ⟨_, pe_ix ix_seq p1 p2 hs, le_op lr_ix l1 l2⟩
/-- d[k] of a dict -/
def dGetD : RD2 := fun x y G Q => match x with
  | .at (.ref p) => ∃ kvs k d, G p = some (.dct kvs) ∧ keyOf y = some k ∧ valD kvs k = some d ∧ Q d G
  | _ => False
theorem le_getD {K : PySem.W.Frag} {te1 te2 : TE} (l1 : LE K B te1 ta) (l2 : LE K B te2 tb) : LE K B (tDGet te1 te2) (dOp dGetD ta tb) := fun σ H δ G Q Q' R h k =>
  l1 σ H δ G _ _ R h fun x H1 d G1 t1 g1 r1 h1 => l2 σ H1 δ G1 _ _ (R.next t1 g1) h1 fun y H2 d2 G2 t2 g2 r2 h2 => by
    unfold dGetD at h2
    split at h2
    · rename_i p
      obtain ⟨kvs, q, d3, e1, e2, e3, h2⟩ := h2
      obtain ⟨ws, f1, rr⟩ := g2.dct e1
      rcases KRel.val rr q with ⟨d4, w, a1, a2, a3⟩ | ⟨a1, a2⟩
      · rw [e3] at a1
        cases a1
        refine ⟨p, w, r1.at_, ?_, k _ H2 d3 G2 (t1.trans t2) g2 a3 h2⟩
        rw [keyOf_rp e2 r2, ← a2]
        exact DGet.k f1
      · rw [e3] at a1; cases a1
    · exact h2.elim
theorem de_getD (hu : X.A.units + 1 < cLine) (ha : DE X B a ta) (hb : DE X B b tb) (hs : NoSl b) : DE X B (.Subscript a b pos) (dOp dGetD ta tb) := by
  obtain ⟨te1, p1, l1⟩ := ha
  obtain ⟨te2, p2, l2⟩ := hb
  exact ⟨_, pe_dget hu p1 p2 hs, le_getD l1 l2⟩
end
abbrev TDO := DSt → GH → (Option Int → GH → Prop) → Prop
def LO (K : PySem.W.Frag) (B : Hp) (to : TO) (t : TDO) : Prop := ∀ σ H δ G (Q : Option Int → GH → Prop) (Q' : Option Int → Hp → Prop), Rl K B δ G σ H → t δ G Q → (∀ o H' G', Tp H H' → RelG K G' H' → Q o G' → Q' o H') → to σ H Q'
def DO (X : Cx) (B : Hp) (e : Option Expr) (t : TDO) : Prop := ∃ to, PO X e to ∧ LO X.K B to t
def dNoPart : TDO := fun _ G Q => Q none G
def dPart (t : TDE) : TDO := fun δ G Q => t δ G fun d G1 => match d with
  | .at (.int i) => Q (some i) G1
  | _ => False
def cutD (xs : List D) (lo hi : Option Int) : List D := (xs.drop (HT.sIx xs.length 0 lo)).take (HT.sIx xs.length xs.length hi - HT.sIx xs.length 0 lo)
def dSl (te : TDE) (tl th : TDO) : TDE := fun δ G Q => te δ G fun x G1 => tl δ G1 fun l G2 => th δ G2 fun u G3 => match x with
  | .tup xs => Q (.tup (cutD xs l u)) G3
  | .at (.ref p) => ∃ xs, G3 p = some (.lst xs) ∧ ∀ r, G3 r = none → Q (dR r) (gu G3 r (.lst (cutD xs l u)))
  | .at (.str z) => z.length ≤ zL ∧ Q (dS (cutS z l u)) G3
  | _ => False
theorem Rps.cut {K : PySem.W.Frag} {H : Hp} {ds : List D} {vs : List V} (r : Rps K H ds vs) (l u : Option Int) : Rps K H (cutD ds l u) (cutV vs l u) := by
  unfold cutD cutV
  rw [r.length]
  exact (r.drop _).take _
section
variable {X : Cx} {B : Hp} {e lo hi : Expr} {te tl : TDE} {pos p2 : Pos} {olo ohi : Option Expr} {tlo thi : TDO}
theorem do_none : DO X B none dNoPart := ⟨_, po_none, fun σ H δ G Q Q' R h k => k _ H G (Tp.refl H) R.g h⟩
theorem do_some (h : DE X B e te) : DO X B (some e) (dPart te) := by
  obtain ⟨t1, p1, l1⟩ := h
  refine ⟨_, po_some p1, fun σ H δ G Q Q' R h k => l1 σ H δ G _ _ R h fun x H1 d G1 t1 g1 r1 h1 => ?_⟩
  split at h1
  · rename_i i
    exact ⟨i, r1.at_, k _ H1 G1 t1 g1 h1⟩
  · exact h1.elim
theorem de_slice (he : DE X B e te) (hl : DO X B olo tlo) (hu : DO X B ohi thi) : DE X B (.Subscript e (.Slice olo ohi none p2) pos) (dSl te tlo thi) := by
  obtain ⟨t1, p1, l1⟩ := he
  obtain ⟨t2, q2, l2⟩ := hl
  obtain ⟨t3, q3, l3⟩ := hu
  refine ⟨_, pe_slice (sl_list.or (sl_tupA.or sl_str)) p1 q2 q3, fun σ H δ G Q Q' R h k => l1 σ H δ G _ _ R h fun x H1 d G1 t1 g1 r1 h1 => ?_⟩
  refine l2 σ H1 δ G1 _ _ (R.next t1 g1) h1 fun l H2 G2 t2 g2 h2 => ?_
  refine l3 σ H2 δ G2 _ _ ((R.next t1 g1).next t2 g2) h2 fun u H3 G3 t3 g3 h3 => ?_
  have k3 : Cn X.K H3 Q Q' := ((k.mono t1).mono t2).mono t3
  have r3 := (r1.mono t2).mono t3
  split at h3
  · rename_i xs
    obtain ⟨a, vs, rfl, hs, rr⟩ := r3.tup_
    refine .inr (.inl ⟨a, vs, rfl, hs, fun hw => ?_, fun _ p hp => new_tup g3 (rr.cut l u) hp h3 k3⟩)
    have e : cutD xs l u = xs := by
      unfold cutD
      rw [rr.length, hw.1, hw.2, List.drop_zero, Nat.sub_zero, ← rr.length, List.take_length]
    rw [e] at h3
    exact k3 _ H3 (.tup xs) G3 (Tp.refl _) g3 (.tup hs rr) h3
  · rename_i p
    obtain ⟨xs, e0, h3⟩ := h3
    obtain ⟨vs, e1, rr⟩ := g3.lst e0
    exact .inl ⟨p, vs, r3.at_, SqL.of e1, fun r hr => new_lst g3 (rr.cut l u) hr h3 k3⟩
  · rename_i z
    exact .inr (.inr ⟨z, r3.at_, by rw [sizeLine_eq]; exact h3.1, k3 _ H3 _ G3 (Tp.refl _) g3 (.at _) h3.2⟩)
  · exact h3.elim
end
end Dl

set_option Elab.async false
set_option linter.all false
set_option maxRecDepth 100000
set_option maxHeartbeats 4000000
/-! The data layer: statements, loops, comprehensions, calls. -/
namespace Dl
open PySem PySem.Spec PyProof.Rows L2

/-! ### targets -/
abbrev TDG := D → DSt → GH → (DSt → GH → Prop) → Prop
abbrev TDGs := List D → DSt → GH → (DSt → GH → Prop) → Prop
def CnS (K : PySem.W.Frag) (B H : Hp) (Q : DSt → GH → Prop) (Q' : L2.St → Hp → Prop) : Prop := ∀ δ G σ H', Tp H H' → Rl K B δ G σ H' → Q δ G → Q' σ H'
theorem CnS.mono {K : PySem.W.Frag} {B H H1 : Hp} {Q : DSt → GH → Prop} {Q' : L2.St → Hp → Prop} (k : CnS K B H Q Q') (t : Tp H H1) : CnS K B H1 Q Q' := fun δ G σ H' t' => k δ G σ H' (t.trans t')
def LG (K : PySem.W.Frag) (B : Hp) (tg : TG) (t : TDG) : Prop := ∀ v d σ H δ G Q Q', Rl K B δ G σ H → Rp K H d v → t d δ G Q → CnS K B H Q Q' → tg v σ H Q'
def LGs (K : PySem.W.Frag) (B : Hp) (tg : TGs) (t : TDGs) : Prop := ∀ vs ds σ H δ G Q Q', Rl K B δ G σ H → Rps K H ds vs → t ds δ G Q → CnS K B H Q Q' → tg vs σ H Q'
def DG (X : Cx) (B : Hp) (e : Expr) (t : TDG) : Prop := ∃ tg, PG X e tg ∧ LG X.K B tg t
def DGs (X : Cx) (B : Hp) (es : List Expr) (t : TDGs) : Prop := ∃ tg, PGs X es tg ∧ LGs X.K B tg t
def gN (i : Nat) : TDG := fun d δ G Q => Q (ss δ i d) G
def gE : TDGs := fun ds δ G Q => ds = [] ∧ Q δ G
def gC (t : TDG) (u : TDGs) : TDGs := fun ds δ G Q => match ds with
  | d :: r => t d δ G fun δ1 G1 => u r δ1 G1 Q
  | [] => False
def gT (n : Nat) (t : TDGs) : TDG := fun d δ G Q => match d with
  | .tup ds => ds.length = n ∧ t ds δ G Q
  | _ => False
section
variable {X : Cx} {B : Hp} {pos : Pos}
theorem dg_name {i : Nat} {x : Str} (hN : X.N.Nodup) (hi : X.N[i]? = some x) (hx : Loc X.env.scope x) (hf : X.fn x = true ∨ X.env.scope.names.lookup x = some .local := by first | exact .inl rfl | exact .inr rfl | assumption) : DG X B (.Name x pos) (gN i) :=
  ⟨_, pg_name hN hi hx hf, fun v d σ H δ G Q Q' R r h k => k _ G _ H (Tp.refl H) ⟨R.s.set r i, R.g, R.b⟩ h⟩
theorem dgs_nil : DGs X B [] gE := ⟨_, pgs_nil, fun vs ds σ H δ G Q Q' R r h k => by
  obtain ⟨e, h⟩ := h
  subst e
  cases r
  exact ⟨rfl, k δ G σ H (Tp.refl H) R h⟩⟩
theorem dgs_cons {e : Expr} {es : List Expr} {t : TDG} {u : TDGs} (h1 : DG X B e t) (h2 : DGs X B es u)
    (hs : (assignEach (e :: es) X.env).map (·.2) = assign e X.env :: (assignEach es X.env).map (·.2) := by rfl) : DGs X B (e :: es) (gC t u) := by
  obtain ⟨g1, p1, l1⟩ := h1
  obtain ⟨g2, p2, l2⟩ := h2
  refine ⟨_, pgs_cons p1 p2 hs, fun vs ds σ H δ G Q Q' R r h k => ?_⟩
  unfold gC at h
  split at h
  · rename_i d ds
    cases r with
    | cons r1 r2 =>
      refine ⟨_, _, rfl, l1 _ _ σ H δ G _ _ R r1 h fun δ1 G1 σ1 H1 t1 R1 h1 => ?_⟩
      exact l2 _ _ σ1 H1 δ1 G1 _ _ R1 (r2.mono t1) h1 (k.mono t1)
  · exact h.elim
theorem dg_tup {es : List Expr} {k : Nat} {t : TDGs} {n : Nat} (hc : X.calm = true) (h : DGs X B es t)
    (hn : (assignEach es X.env).length = n := by rfl) (hst : (assignEach es X.env).findIdx? (·.1) = none := by rfl) : DG X B (.Tuple es k pos) (gT n t) := by
  obtain ⟨g, p, l⟩ := h
  refine ⟨_, pg_tup hc p hn hst, fun v d σ H δ G Q Q' R r h k => ?_⟩
  unfold gT at h
  split at h
  · rename_i ds
    obtain ⟨a, vs, rfl, hs, r1⟩ := r.tup_
    exact ⟨a, vs, rfl, hs, r1.length.symm.trans h.1, l _ _ σ H δ G _ _ R r1 h.2 k⟩
  · exact h.elim
/-! stores by values -/
abbrev TDSet := D → D → D → GH → (GH → Prop) → Prop
def LSet (K : PySem.W.Frag) (t : TSet) (t' : TDSet) : Prop := ∀ H G o i d vo vi vd (Q : GH → Prop) (Q' : Hp → Prop), RelG K G H → Rp K H o vo → Rp K H i vi → Rp K H d vd → t' o i d G Q → (∀ H' G', Tp H H' → RelG K G' H' → Q G' → Q' H') → t vo vi vd H Q'
theorem PSet.or {t u : TSet} (h : PSet X t) (h' : PSet X u) : PSet X (fun o i v H Q => t o i v H Q ∨ u o i v H Q) := by
  intro pins s σ H o i v ov iv u Q I r1 r2 r3 q
  rcases q with q | q
  · exact h pins s σ H o i v ov iv u Q I r1 r2 r3 q
  · exact h' pins s σ H o i v ov iv u Q I r1 r2 r3 q
def rSetD : TSet := fun o i v H Q => ∃ a H', o = .ref a ∧ DPut H a i v H' ∧ Q H'
theorem set_dict (hu : X.A.units + 1 < cLine) : PSet X rSetD := by
  intro pins s σ H o i v ov iv u Q I r1 r2 r3 h
  obtain ⟨a, H', rfl, g, q⟩ := h
  cases r1
  exact d_setItem hu I g r2 r3 fun s' I' => ⟨H', I', q⟩
/-- o[i] = d of a list, of a dict -/
def dSet : TDSet := fun o i d G Q => match o with
  | .at (.ref p) => (∃ xs n j, G p = some (.lst xs) ∧ i = dI n ∧ ixN xs.length n = some j ∧ Q (gu G p (.lst (xs.set j d)))) ∨
      ∃ kvs k, G p = some (.dct kvs) ∧ keyOf i = some k ∧ kvs.length < zL ∧ Q (gu G p (.dct (putD kvs k d)))
  | _ => False
theorem lset {K : PySem.W.Frag} : LSet K (fun o i v H Q => rSetL o i v H Q ∨ rSetD o i v H Q) dSet := fun H G o i d vo vi vd Q Q' g ro ri rd h k => by
  unfold dSet at h
  split at h
  · rename_i p
    rcases h with ⟨xs, n, j, e, rfl, e2, h⟩ | ⟨kvs, q, e, e2, hz, h⟩
    · obtain ⟨vs, f1, r1⟩ := g.lst e
      have tp : Tp H (upd H p (.lst (vs.set j vd))) := Tp.set f1 trivial
      refine .inl ⟨p, vs, n, j, ro.at_, ri.at_, f1, by rw [← r1.length]; exact e2, k _ _ tp (g.set (m := .lst (xs.set j d)) e f1 trivial ⟨rfl, _, rfl, (r1.mono tp).set (rd.mono tp) j⟩) h⟩
    · obtain ⟨ws, f1, r1⟩ := g.dct e
      have tp : Tp H (upd H p (.dK (putK ws q vd))) := Tp.set f1 trivial
      refine .inr ⟨p, _, ro.at_, ?_, k _ _ tp (g.set (m := .dct (putD kvs q d)) e f1 trivial ⟨rfl, _, rfl, KRel.put (rd.mono tp) (KRel.mono r1 tp) q⟩) h⟩
      rw [keyOf_rp e2 ri]
      exact DPut.k f1 (by rw [← r1.length, ← zL_eq]; exact hz)
  · exact h.elim
def gS (to ti : TDE) : TDG := fun d δ G Q => to δ G fun o G1 => ti δ G1 fun i G2 => dSet o i d G2 fun G3 => Q δ G3
theorem dg_sub {o i : Expr} {to ti : TDE} (hu : X.A.units + 1 < cLine) (ho : DE X B o to) (hi : DE X B i ti)
    (ha : ∀ v, assign (.Subscript o i pos) X.env v = (do
      let ov ← holding [v] (eval o X.env)
      let iv ← holding [v, ov] (eval i X.env)
      standAt pos
      holding [v, ov, iv] (setItem ov iv v)
      release [v, ov, iv] []) := by intro _; rfl) : DG X B (.Subscript o i pos) (gS to ti) := by
  obtain ⟨t1, p1, l1⟩ := ho
  obtain ⟨t2, p2, l2⟩ := hi
  refine ⟨_, pg_sub p1 p2 (PSet.or set_list (set_dict hu)) ha, fun v d σ H δ G Q Q' R r h k => ?_⟩
  refine l1 σ H δ G _ _ R h fun vo H1 do_ G1 t1 g1 ro h1 => l2 σ H1 δ G1 _ _ (R.next t1 g1) h1 fun vi H2 di G2 t2 g2 ri h2 => ?_
  exact lset H2 G2 do_ di d vo vi v _ _ g2 (ro.mono t2) ri ((r.mono t1).mono t2) h2 fun H3 G3 t3 g3 h3 => k δ G3 σ H3 ((t1.trans t2).trans t3) (((R.next t1 g1).next t2 g2).next t3 g3) h3
/-! attributes -/
def lookS (f : Str) (fs : List (Str × D)) : Option D := fs.lookup f
def putS (f : Str) (d : D) : List (Str × D) → List (Str × D)
  | [] => [(f, d)]
  | (g, x) :: r => if g = f then (g, d) :: r else (g, x) :: putS f d r
theorem FRel.look {K : PySem.W.Frag} {H : Hp} {f : Str} : ∀ {fs : List (Str × D)} {gs : List (Str × V)} (r : FRel K H fs gs) {d : D}, lookS f fs = some d → ∃ v, gs.lookup f = some v ∧ Rp K H d v
  | _, _, .nil, d, h => by cases h
  | (a, x) :: fs, (b, y) :: gs, .cons r t, d, h => by
    obtain ⟨e, rx⟩ := r
    have e : a = b := e
    subst e
    unfold lookS at h
    cases hb : (f == a) with
    | true =>
      have h2 : (match f == a with | true => some x | false => fs.lookup f) = some d := h
      rw [hb] at h2
      cases h2
      exact ⟨y, by show (match f == a with | true => some y | false => gs.lookup f) = some y; rw [hb], rx⟩
    | false =>
      have h2 : (match f == a with | true => some x | false => fs.lookup f) = some d := h
      rw [hb] at h2
      obtain ⟨v, e1, e2⟩ := FRel.look t h2
      exact ⟨v, by show (match f == a with | true => some y | false => gs.lookup f) = some v; rw [hb]; exact e1, e2⟩
theorem FRel.lookN {K : PySem.W.Frag} {H : Hp} {f : Str} : ∀ {fs : List (Str × D)} {gs : List (Str × V)} (r : FRel K H fs gs), lookS f fs = none → gs.lookup f = none
  | _, _, .nil, h => rfl
  | (a, x) :: fs, (b, y) :: gs, .cons r t, h => by
    obtain ⟨e, rx⟩ := r
    have e : a = b := e
    subst e
    unfold lookS at h
    have h2 : (match f == a with | true => some x | false => fs.lookup f) = none := h
    show (match f == a with | true => some y | false => gs.lookup f) = none
    cases hb : (f == a) with
    | true => rw [hb] at h2; cases h2
    | false => rw [hb] at h2; exact FRel.lookN t h2
theorem FRel.put {K : PySem.W.Frag} {H : Hp} {f : Str} {d : D} {v : V} (hd : Rp K H d v) : ∀ {fs : List (Str × D)} {gs : List (Str × V)} (r : FRel K H fs gs), FRel K H (putS f d fs) (putF f v gs)
  | _, _, .nil => .cons ⟨rfl, hd⟩ .nil
  | (a, x) :: fs, (b, y) :: gs, .cons r t => by
    obtain ⟨e, rx⟩ := r
    have e : a = b := e
    subst e
    show FRel K H (if a = f then (a, d) :: fs else (a, x) :: putS f d fs) (if a = f then (a, v) :: gs else (a, y) :: putF f v gs)
    by_cases z : a = f
    · rw [if_pos z, if_pos z]; exact .cons ⟨rfl, hd⟩ t
    · rw [if_neg z, if_neg z]; exact .cons ⟨rfl, rx⟩ (FRel.put hd t)
theorem FRel.length {K : PySem.W.Frag} {H : Hp} {fs : List (Str × D)} {gs : List (Str × V)} (r : FRel K H fs gs) : fs.length = gs.length := Paired.length r
/-- o.f -/
def dFld (C : Addr) (f : Str) (te : TDE) : TDE := fun δ G Q => te δ G fun x G1 => match x with
  | .at (.ref a) => ∃ dx fs d, G1 a = some (.ins C dx fs) ∧ lookS f fs = some d ∧ Q d G1
  | _ => False
theorem de_fld {e : Expr} {f : Str} {te : TDE} {C : Addr} (c : Cls X.K C) (n : NoAttr X.K C f) (he : DE X B e te) (hb : attributeBase e f X.env (eval e X.env) = eval e X.env := by rfl) : DE X B (.Attribute e f pos) (dFld C f te) := by
  obtain ⟨t1, p1, l1⟩ := he
  refine ⟨_, pe_fld p1 hb, fun σ H δ G Q Q' R h k => l1 σ H δ G _ _ R h fun x H1 d G1 t1 g1 r1 h1 => ?_⟩
  split at h1
  · rename_i a
    obtain ⟨dx, fs, d2, e1, e2, h2⟩ := h1
    obtain ⟨gs, f1, rr⟩ := g1.ins e1
    obtain ⟨v, a1, a2⟩ := FRel.look rr e2
    exact ⟨a, C, dx, gs, v, r1.at_, f1, c, n, a1, k v H1 d2 G1 t1 g1 a2 h2⟩
  · exact h1.elim
/-- o.f = d, by values -/
def dSetF (C : Addr) (f : Str) (x d : D) (G : GH) (Q : GH → Prop) : Prop := match x with
  | .at (.ref a) => ∃ dx fs, G a = some (.ins C dx fs) ∧ fs.length < 1000 ∧ Q (gu G a (.ins C dx (putS f d fs)))
  | _ => False
theorem setF_rel {K : PySem.W.Frag} {G : GH} {H : Hp} {C a : Addr} {dx : Addr} {f : Str} {fs : List (Str × D)} {gs : List (Str × V)} {d : D} {v : V} (g : RelG K G H) (e : G a = some (.ins C dx fs)) (f1 : H a = some (.ins C dx gs)) (rr : FRel K H fs gs) (r : Rp K H d v) :
    Tp H (upd H a (.ins C dx (putF f v gs))) ∧ RelG K (gu G a (.ins C dx (putS f d fs))) (upd H a (.ins C dx (putF f v gs))) := by
  have tp : Tp H (upd H a (.ins C dx (putF f v gs))) := Tp.set f1 trivial
  exact ⟨tp, g.set (m := .ins C dx (putS f d fs)) e f1 trivial ⟨rfl, _, rfl, FRel.put (r.mono tp) (FRel.mono rr tp)⟩⟩
def gF (C : Addr) (f : Str) (to : TDE) : TDG := fun d δ G Q => to δ G fun x G1 => dSetF C f x d G1 fun G2 => Q δ G2
def gAttr (K : PySem.W.Frag) (C : Addr) (f : Str) (to : TE) : TG := fun v σ H Q => to σ H fun x H1 => ∃ a dx fs, x = .ref a ∧ H1 a = some (.ins C dx fs) ∧ fs.length < 1000 ∧ Q σ (upd H1 a (.ins C dx (putF f v fs)))
theorem pg_attr {o : Expr} {f : Str} {to : TE} {C : Addr} (c : Cls X.K C) (n : NoAttr X.K C f) (ho : PE X o to) : PG X (.Attribute o f pos) (gAttr X.K C f to) := by
  refine ⟨fun pins s σ H v u Q I r h => ?_⟩
  rw [assign_Attribute]
  refine wpAny_bind (wpAny_holding (thn (ho.run pins s σ H _ I h) fun ov s1 ⟨x, H1, I1, r1, a, dx, fs, ex, ea, hl, q⟩ => ?_))
  subst ex
  obtain rfl : ov = Value.ref a := r1
  refine wpAny_bind (wpAny_standAt (wpAny_bind (wpAny_holding ?_)))
  exact setattr_ok I1 ea c n hl r fun s2 I2 => wpAny_release ⟨σ, _, I2, q⟩
theorem dg_attr {o : Expr} {f : Str} {to : TDE} {C : Addr} (c : Cls X.K C) (n : NoAttr X.K C f) (ho : DE X B o to) : DG X B (.Attribute o f pos) (gF C f to) := by
  obtain ⟨t1, p1, l1⟩ := ho
  refine ⟨_, pg_attr c n p1, fun v d σ H δ G Q Q' R r h k => l1 σ H δ G _ _ R h fun x H1 d1 G1 t1 g1 r1 h1 => ?_⟩
  unfold dSetF at h1
  split at h1
  · rename_i a
    obtain ⟨dx, fs, e1, hl, h2⟩ := h1
    obtain ⟨gs, f1, rr⟩ := g1.ins e1
    obtain ⟨tp, g2⟩ := setF_rel (f := f) g1 e1 f1 rr (r.mono t1)
    exact ⟨a, dx, gs, r1.at_, f1, by rw [← rr.length]; exact hl, k δ _ σ _ (t1.trans tp) ((R.next t1 g1).next tp g2) h2⟩
  · exact h1.elim
end

/-! ### statements -/
section
variable {X : Cx} {B : Hp} {st : Stmt} {rest : List Stmt} {t u : TDS} {e : Expr} {te : TDE} {pos : Pos}
def dNext : TDS := fun E δ G => E.nx δ G
def dSeq (t u : TDS) : TDS := fun E δ G => t { E with nx := u E } δ G
theorem dss_nil : DSs X B [] dNext := ⟨_, pss_nil, fun σ H δ G E D' R h k => k.nx δ G σ H (Tp.refl H) R h⟩
theorem dss_cons (h1 : DS X B st t) (h2 : DSs X B rest u) : DSs X B (st :: rest) (dSeq t u) := by
  obtain ⟨t1, p1, l1⟩ := h1
  obtain ⟨t2, p2, l2⟩ := h2
  refine ⟨_, pss_cons p1 p2, fun σ H δ G E D' R h k => l1 σ H δ G _ _ R h ⟨fun δ1 G1 σ1 H1 tp R1 h1 => l2 σ1 H1 δ1 G1 _ _ R1 h1 (k.mono tp), k.rt, k.bk, k.ct⟩⟩
theorem dss_one (h1 : DS X B st t) : DSs X B [st] t := by
  obtain ⟨t1, p1, l1⟩ := h1
  exact ⟨_, pss_one p1, l1⟩
/-- what is known told otherwise, ahead of a block -/
def dGhost (K : PySem.W.Frag) (t : TDS) : TDS := fun E δ G => ∃ P : GH → Prop, (∀ H, RelG K G H → ∃ G1, P G1 ∧ RelG K G1 H) ∧ ∀ G1, P G1 → t E δ G1
theorem dss_ghost {sts : List Stmt} (h : DSs X B sts t) : DSs X B sts (dGhost X.K t) := by
  obtain ⟨t1, p1, l1⟩ := h
  refine ⟨_, p1, fun σ H δ G E D' R h k => ?_⟩
  obtain ⟨P, hP, h⟩ := h
  obtain ⟨G1, q, g1⟩ := hP H R.g
  exact l1 σ H δ G1 E D' ⟨R.s, g1, R.b⟩ (h G1 q) k
def dBrk : TDS := fun E δ G => E.bk δ G
def dCnt : TDS := fun E δ G => E.ct δ G
theorem ds_pass : DS X B (.Pass pos) dNext := ⟨_, ps_pass, fun σ H δ G E D' R h k => k.nx δ G σ H (Tp.refl H) R h⟩
theorem ds_break : DS X B (.Break pos) dBrk := ⟨_, ps_break, fun σ H δ G E D' R h k => k.bk δ G σ H (Tp.refl H) R h⟩
theorem ds_continue : DS X B (.Continue pos) dCnt := ⟨_, ps_continue, fun σ H δ G E D' R h k => k.ct δ G σ H (Tp.refl H) R h⟩
def dDrop (te : TDE) : TDS := fun E δ G => te δ G fun _ G1 => E.nx δ G1
theorem ds_expr (he : DE X B e te) (hs : swapsWith e none pos.line X.env = pure false := by rfl) : DS X B (.Expr e pos) (dDrop te) := by
  obtain ⟨t1, p1, l1⟩ := he
  exact ⟨_, ps_expr p1 hs, fun σ H δ G E D' R h k => l1 σ H δ G _ _ R h fun x H1 d G1 t1 g1 r1 h1 => k.nx δ G1 σ H1 t1 (R.next t1 g1) h1⟩
def dRet (te : TDE) : TDS := fun E δ G => te δ G E.rt
theorem ds_ret (he : DE X B e te) : DS X B (.Return (some e) pos) (dRet te) := by
  obtain ⟨t1, p1, l1⟩ := he
  exact ⟨_, ps_ret p1, fun σ H δ G E D' R h k => l1 σ H δ G _ _ R h k.rt⟩
def dRetN : TDS := fun E _ G => E.rt dN G
theorem ds_retN : DS X B (.Return none pos) dRetN := ⟨_, ps_retN, fun σ H δ G E D' R h k => k.rt _ H _ G (Tp.refl H) R.g (.at _) h⟩
def dIfS (c : TDT) (t u : TDS) : TDS := fun E δ G => c δ G fun b G1 => (b = true → t E δ G1) ∧ (b = false → u E δ G1)
theorem ds_if {c : Expr} {a b : List Stmt} {tc : TDT} (hc : DT X B c tc) (ha : DSs X B a t) (hb : DSs X B b u) : DS X B (.If c a b pos) (dIfS tc t u) := by
  obtain ⟨t1, p1, l1⟩ := hc
  obtain ⟨t2, p2, l2⟩ := ha
  obtain ⟨t3, p3, l3⟩ := hb
  refine ⟨_, ps_if p1 p2 p3, fun σ H δ G E D' R h k => l1 σ H δ G _ _ R h fun c H1 G1 t1 g1 h1 => ?_⟩
  cases c with
  | true => rw [if_pos rfl]; exact l2 σ H1 δ G1 _ _ (R.next t1 g1) (h1.1 rfl) (k.mono t1)
  | false => rw [if_neg Bool.false_ne_true]; exact l3 σ H1 δ G1 _ _ (R.next t1 g1) (h1.2 rfl) (k.mono t1)
def dNever : TDS := fun _ _ _ => False
theorem ds_never : DS X B st dNever := ⟨_, ps_never, fun σ H δ G E D' R h k => h.elim⟩
def dAsg (te : TDE) (g : TDG) : TDS := fun E δ G => te δ G fun d G1 => g d δ G1 E.nx
theorem ls_asg {K : PySem.W.Frag} {te' : TE} {tg' : TG} {g : TDG} (l1 : LE K B te' te) (l2 : LG K B tg' g) : LS K B (tAsg te' tg') (dAsg te g) := fun σ H δ G E D' R h k =>
  l1 σ H δ G _ _ R h fun x H1 d G1 t1 g1 r1 h1 => l2 x d σ H1 δ G1 _ _ (R.next t1 g1) r1 h1 fun δ2 G2 σ2 H2 t2 R2 h2 => k.nx δ2 G2 σ2 H2 (t1.trans t2) R2 h2
theorem ds_asg {tg : Expr} {g : TDG} (he : DE X B e te) (hg : DG X B tg g) (hs : swapsWithSole [tg] e pos.line X.env = pure false := by rfl) (hw : swappedStores [tg] e X.env = pure none := by rfl)
    (h1 : (assignEach [tg] X.env).map (·.2) = [assign tg X.env] := by rfl) : DS X B (.Assign [tg] e pos) (dAsg te g) := by
  obtain ⟨t1, p1, l1⟩ := he
  obtain ⟨t2, p2, l2⟩ := hg
  exact ⟨_, ps_asg p1 p2 hs hw h1, ls_asg l1 l2⟩
theorem lg_name {K : PySem.W.Frag} {i : Nat} : LG K B (gName i) (gN i) := fun v d σ H δ G Q Q' R r h k => k _ G _ H (Tp.refl H) ⟨R.s.set r i, R.g, R.b⟩ h
theorem ds_set {i : Nat} {x : Str} {pos' : Pos} (hN : X.N.Nodup) (hi : X.N[i]? = some x) (hx : Loc X.env.scope x) (he : DE X B e te) (hs : swapsWith e (some (.Name x pos')) pos.line X.env = pure false := by rfl)
    (hf : X.fn x = true ∨ X.env.scope.names.lookup x = some .local := by first | exact .inl rfl | exact .inr rfl | assumption) : DS X B (.Assign [.Name x pos'] e pos) (dAsg te (gN i)) := by
  obtain ⟨t1, p1, l1⟩ := he
  exact ⟨_, ps_set hN hi hx p1 hs hf, ls_asg l1 lg_name⟩
theorem ds_fld {o : Expr} {f : Str} {pos' : Pos} {to : TDE} {C : Addr} (c : Cls X.K C) (n : NoAttr X.K C f) (ho : DE X B o to) (he : DE X B e te) (hs : swapsWith e (some (.Attribute o f pos')) pos.line X.env = pure false := by rfl) :
    DS X B (.Assign [.Attribute o f pos'] e pos) (dAsg te (gF C f to)) := by
  obtain ⟨t1, p1, l1⟩ := he
  obtain ⟨t2, p2, l2⟩ := ho
  refine ⟨_, ps_fld p2 p1 hs, fun σ H δ G E D' R h k => l1 σ H δ G _ _ R h fun x H1 d G1 t1 g1 r1 h1 => l2 σ H1 δ G1 _ _ (R.next t1 g1) h1 fun y H2 d2 G2 t2 g2 r2 h2 => ?_⟩
  unfold dSetF at h2
  split at h2
  · rename_i a
    obtain ⟨dx, fs, e1, hl, h3⟩ := h2
    obtain ⟨gs, f1, rr⟩ := g2.ins e1
    obtain ⟨tp, g3⟩ := setF_rel (f := f) g2 e1 f1 rr (r1.mono t2)
    exact ⟨a, C, dx, gs, r2.at_, f1, c, n, by rw [← rr.length]; exact hl, k.nx δ _ σ _ ((t1.trans t2).trans tp) (((R.next t1 g1).next t2 g2).next tp g3) h3⟩
  · exact h2.elim
/-- o[i] = e -/
theorem ds_put {o i : Expr} {pos' : Pos} {to ti : TDE} (hu : X.A.units + 1 < cLine) (ho : DE X B o to) (hi : DE X B i ti) (he : DE X B e te) (hs : swapsWithSole [.Subscript o i pos'] e pos.line X.env = pure false := by rfl) (hw : swappedStores [.Subscript o i pos'] e X.env = pure none := by rfl)
    (h1 : (assignEach [.Subscript o i pos'] X.env).map (·.2) = [assign (.Subscript o i pos') X.env] := by rfl)
    (ha : ∀ v, assign (.Subscript o i pos') X.env v = (do
      let ov ← holding [v] (eval o X.env)
      let iv ← holding [v, ov] (eval i X.env)
      standAt pos'
      holding [v, ov, iv] (setItem ov iv v)
      release [v, ov, iv] []) := by intro _; rfl) : DS X B (.Assign [.Subscript o i pos'] e pos) (dAsg te (gS to ti)) := ds_asg he (dg_sub hu ho hi ha) hs hw h1
/-- a, b = x, y: plain local names -/
def dPar (i j : Nat) (ta : TDA) : TDS := fun E δ G => ta δ G fun ds G1 => match ds with
  | [a, b] => E.nx (ss (ss δ i a) j b) G1
  | _ => False
theorem ds_par {i j : Nat} {x y : Str} {a b : Expr} {ta : TDA} {px py pt : Pos} {kt k2 pt2} (hc : X.calm = true) (hN : X.N.Nodup) (hi : X.N[i]? = some x) (hj : X.N[j]? = some y) (hij : i ≠ j)
    (hx : X.env.scope.names.lookup x = some .local) (hy : X.env.scope.names.lookup y = some .local) (ha : DA X B [a, b] ta)
    (hw : swappedStores [.Tuple [.Name x px, .Name y py] kt pt] (.Tuple [a, b] k2 pt2) X.env = pure (some [x, y]))
    (hs : swapsWithSole [.Tuple [.Name x px, .Name y py] kt pt] (.Tuple [a, b] k2 pt2) pos.line X.env = pure false := by rfl) :
    DS X B (.Assign [.Tuple [.Name x px, .Name y py] kt pt] (.Tuple [a, b] k2 pt2) pos) (dPar i j ta) := by
  obtain ⟨t1, p1, l1⟩ := ha
  refine ⟨_, ps_par hc hN hi hj hij hx hy p1 hw hs, fun σ H δ G E D' R h k => l1 σ H δ G _ _ R h fun vs H1 ds G1 t1 g1 r1 h1 => ?_⟩
  split at h1
  · rename_i a b
    obtain ⟨v, w, rfl, ra, rb⟩ := r1.two
    have R1 := R.next t1 g1
    exact ⟨v, w, rfl, k.nx _ G1 _ H1 t1 ⟨(R1.s.set ra i).set rb j, g1, R1.b⟩ h1⟩
  · exact h1.elim
/-- name op= e -/
def dAug (i : Nat) (te : TDE) (g : Int → Int → Int) : TDS := fun E δ G => match gs δ i with
  | some (.at (.int a)) => te δ G fun d G1 => match d with
    | .at (.int b) => E.nx (ss δ i (dI (g a b))) G1
    | _ => False
  | _ => False
theorem ds_aug {i : Nat} {x : Str} {op : Operator} {pos' : Pos} {g : Int → Int → Int} (hN : X.N.Nodup) (hi : X.N[i]? = some x) (hx : Loc X.env.scope x) (he : DE X B e te) (ho : PIp X op (ipI g))
    (hf : X.fn x = true ∨ X.env.scope.names.lookup x = some .local := by first | exact .inl rfl | exact .inr rfl | assumption) : DS X B (.AugAssign (.Name x pos') op e pos) (dAug i te g) := by
  obtain ⟨t1, p1, l1⟩ := he
  refine ⟨_, ps_aug hN hi hx p1 ho hf, fun σ H δ G E D' R h k => ?_⟩
  unfold dAug at h
  split at h
  · rename_i a ea
    obtain ⟨v, e1, r⟩ := R.s.get ea
    refine ⟨v, e1, l1 σ H δ G _ _ R h fun y H1 d G1 t1 g1 r1 h1 => ?_⟩
    split at h1
    · rename_i b
      have R1 := R.next t1 g1
      exact ⟨a, b, r.at_, r1.at_, k.nx _ G1 _ H1 t1 ⟨R1.s.set (.at _) i, g1, R1.b⟩ h1⟩
    · exact h1.elim
  · exact h.elim
/-- o.f op= e, of ints -/
def dFAug (C : Addr) (f : Str) (to te : TDE) (g : Int → Int → Int) : TDS := fun E δ G => to δ G fun x G1 => match x with
  | .at (.ref a) => ∃ dx fs i, G1 a = some (.ins C dx fs) ∧ lookS f fs = some (dI i) ∧ te δ G1 fun y G2 => match y with
    | .at (.int j) => ∃ dx' fs', G2 a = some (.ins C dx' fs') ∧ fs'.length < 1000 ∧ E.nx δ (gu G2 a (.ins C dx' (putS f (dI (g i j)) fs')))
    | _ => False
  | _ => False
def rI2 (g : Int → Int → Int) : V → V → Hp → VK → Prop := fun x y H Q => ∃ i j, x = .int i ∧ y = .int j ∧ Q (.int (g i j)) H
theorem ds_fldaug {o : Expr} {f : Str} {to : TDE} {C : Addr} {op : Operator} {tpos : Pos} {g : Int → Int → Int} (c : Cls X.K C) (n : NoAttr X.K C f) (ho : DE X B o to) (he : DE X B e te) (hop : InOp X op (rI2 g)) :
    DS X B (.AugAssign (.Attribute o f tpos) op e pos) (dFAug C f to te g) := by
  obtain ⟨t1, p1, l1⟩ := ho
  obtain ⟨t2, p2, l2⟩ := he
  refine ⟨_, ps_fldaug p1 p2 hop, fun σ H δ G E D' R h k => l1 σ H δ G _ _ R h fun x H1 d G1 t1 g1 r1 h1 => ?_⟩
  split at h1
  · rename_i a
    obtain ⟨dx, fs, i, e1, e2, h1⟩ := h1
    obtain ⟨gs, f1, rr⟩ := g1.ins e1
    obtain ⟨v, a1, a2⟩ := FRel.look rr e2
    refine ⟨a, C, dx, gs, v, r1.at_, f1, c, n, a1, l2 σ H1 δ G1 _ _ (R.next t1 g1) h1 fun y H2 d2 G2 t2 g2 r2 h2 => ?_⟩
    split at h2
    · rename_i j
      obtain ⟨dx', fs', e3, hl, h3⟩ := h2
      obtain ⟨gs', f3, rr'⟩ := g2.ins e3
      obtain ⟨tp, g3⟩ := setF_rel (f := f) (d := dI (g i j)) (v := .int (g i j)) g2 e3 f3 rr' (.at _)
      refine ⟨i, j, a2.at_, r2.at_, dx', gs', f3, by rw [← rr'.length]; exact hl, k.nx δ _ σ _ ((t1.trans t2).trans tp) (((R.next t1 g1).next t2 g2).next tp g3) h3⟩
    · exact h2.elim
  · exact h1.elim
end

/-! ### loops -/
/-- a while, by a word with a measure -/
def dWhile (K : PySem.W.Frag) (c : TDT) (tb : TDS) : TDS := fun E δ G => ∃ W : Nat → DSt → GH → Prop, (∃ m, W m δ G) ∧ ∀ m δ G, W m δ G →
  c δ G fun b G1 => (b = true → tb { E with nx := fun δ' G' => ∃ m' G2, m' < m ∧ Ent K G' G2 ∧ W m' δ' G2, ct := fun δ' G' => ∃ m' G2, m' < m ∧ Ent K G' G2 ∧ W m' δ' G2, bk := E.nx } δ G1) ∧ (b = false → E.nx δ G1)
section
variable {X : Cx} {B : Hp} {pos : Pos}
theorem ds_while {c : Expr} {body : List Stmt} {tc : TDT} {tb : TDS} (hp : PassesOwn (model X.prog X.w) X.A X.env X.xe) (hc : DT X B c tc) (hb : DSs X B body tb) : DS X B (.While c body [] pos) (dWhile X.K tc tb) := by
  obtain ⟨t1, p1, l1⟩ := hc
  obtain ⟨t2, p2, l2⟩ := hb
  refine ⟨_, ps_while hp p1 p2, fun σ H δ G E D' R h k => ?_⟩
  obtain ⟨W, ⟨m0, w0⟩, turn⟩ := h
  refine ⟨fun m σ' H' => ∃ δ' G', Tp H H' ∧ Rl X.K B δ' G' σ' H' ∧ W m δ' G', ⟨m0, δ, G, Tp.refl H, R, w0⟩, fun m σ1 H1 ⟨δ1, G1, tp1, R1, w1⟩ => ?_⟩
  refine l1 σ1 H1 δ1 G1 _ _ R1 (turn m δ1 G1 w1) fun b H2 G2 t2 g2 h2 => ?_
  cases b with
  | true =>
    rw [if_pos rfl]
    refine ⟨fun σ' H' => ∃ m' δ' G', m' < m ∧ Tp H H' ∧ Rl X.K B δ' G' σ' H' ∧ W m' δ' G', fun σ' H' ⟨m', δ', G', l, a, b, c⟩ => ⟨m', l, δ', G', a, b, c⟩, ?_⟩
    have nx : ∀ δ' G' σ' H', Tp H2 H' → Rl X.K B δ' G' σ' H' → (∃ m' G2, m' < m ∧ Ent X.K G' G2 ∧ W m' δ' G2) → ∃ m' δ' G', m' < m ∧ Tp H H' ∧ Rl X.K B δ' G' σ' H' ∧ W m' δ' G' := fun δ' G' σ' H' t' R' ⟨m', G3, l, en, w⟩ =>
      ⟨m', δ', G3, l, (tp1.trans t2).trans t', ⟨R'.s, en _ R'.g, R'.b⟩, w⟩
    exact l2 σ1 H2 δ1 G2 _ _ (R1.next t2 g2) (h2.1 rfl) ⟨nx, k.rt.mono (tp1.trans t2), fun δ' G' σ' H' t' => k.nx δ' G' σ' H' ((tp1.trans t2).trans t'), nx⟩
  | false =>
    rw [if_neg Bool.false_ne_true]
    exact k.nx δ1 G2 σ1 H2 (tp1.trans t2) (R1.next t2 g2) (h2.2 rfl)
end
/-- what is walked: the items, and what must stand -/
abbrev TDI := DSt → GH → (List D → (GH → Prop) → GH → Prop) → Prop
/-- J walks the items from H0 on -/
structure Wk (K : PySem.W.Frag) (H0 : Hp) (xs : List D) (stay : GH → Prop) (J : It) : Prop where
  go : ∀ i G H, Tp H0 H → RelG K G H → stay G → i < xs.length → J.go i H
  yl : ∀ i G H x H', Tp H0 H → RelG K G H → stay G → i < xs.length → J.yld i H x H' → ∃ d, xs[i]? = some d ∧ Tp H H' ∧ RelG K G H' ∧ Rp K H' d x
  stop : ∀ G H, Tp H0 H → RelG K G H → stay G → J.stop xs.length H
  le : ∀ G G', Le G G' → stay G → stay G'
def LI (K : PySem.W.Frag) (B : Hp) (wi : TI) (t : TDI) : Prop := ∀ σ H δ G (R : List D → (GH → Prop) → GH → Prop) (R' : It → Hp → Prop), Rl K B δ G σ H → t δ G R →
  (∀ xs stay J G1 H1, Tp H H1 → RelG K G1 H1 → Wk K H1 xs stay J → R xs stay G1 → R' J H1) → wi σ H R'
def DI (X : Cx) (B : Hp) (tg iter : Expr) (t : TDI) : Prop := ∃ wi, PI X tg iter wi ∧ LI X.K B wi t
/-- for: W by the turn -/
def dFor (K : PySem.W.Frag) (ti : TDI) (g : TDG) (tb : TDS) : TDS := fun E δ G => ti δ G fun xs stay G1 => ∃ W : Nat → DSt → GH → Prop, W 0 δ G1 ∧ (∀ i δ G, W i δ G → stay G) ∧
  (∀ i x δ G, xs[i]? = some x → W i δ G → g x δ G fun δ1 G2 => tb { E with nx := fun δ' G' => ∃ G3, Ent K G' G3 ∧ W (i + 1) δ' G3, ct := fun δ' G' => ∃ G3, Ent K G' G3 ∧ W (i + 1) δ' G3, bk := E.nx } δ1 G2) ∧ ∀ δ G, W xs.length δ G → E.nx δ G
section
variable {X : Cx} {B : Hp} {pos : Pos}
theorem ds_for {tg iter : Expr} {body : List Stmt} {ti : TDI} {g : TDG} {tb : TDS} (hp : PassesOwn (model X.prog X.w) X.A X.env X.xe) (hc : X.calm = true) (hi : DI X B tg iter ti) (hg : DG X B tg g) (hb : DSs X B body tb)
    (hs : ∀ x, foldedSetIterable iter X.env x = pure x := by intro _; rfl) : DS X B (.For tg iter body [] pos) (dFor X.K ti g tb) := by
  obtain ⟨wi, p0, l0⟩ := hi
  obtain ⟨t1, p1, l1⟩ := hg
  obtain ⟨t2, p2, l2⟩ := hb
  refine ⟨_, ps_for hp hc p0 p1 p2 hs, fun σ H δ G E D' R h k => ?_⟩
  refine l0 σ H δ G _ _ R h fun xs stay J G1 H1 t1 g1 J1 h1 => ?_
  obtain ⟨W, w0, hst, turn, fin⟩ := h1
  refine ⟨fun i m σ' H' => m = xs.length - i ∧ i ≤ xs.length ∧ ∃ δ' G', Tp H1 H' ∧ Rl X.K B δ' G' σ' H' ∧ W i δ' G', ⟨xs.length, rfl, Nat.zero_le _, δ, G1, Tp.refl _, R.next t1 g1, w0⟩, ?_⟩
  rintro i m σ2 H2 ⟨rfl, hi, δ2, G2, tp2, R2, w2⟩
  have st2 := hst i δ2 G2 w2
  by_cases hlt : i < xs.length
  · refine .inr ⟨J1.go i G2 H2 tp2 R2.g st2 hlt, fun σ' H' => ∃ δ' G', Tp H1 H' ∧ Rl X.K B δ' G' σ' H' ∧ W (i + 1) δ' G', fun σ' H' q => ⟨xs.length - (i + 1), by omega, rfl, hlt, q⟩, fun x H3 y => ?_⟩
    obtain ⟨d, ed, tp3, g3, r3⟩ := J1.yl i G2 H2 x H3 tp2 R2.g st2 hlt y
    refine l1 x d σ2 H3 δ2 G2 _ _ (R2.next tp3 g3) r3 (turn i d δ2 G2 ed w2) fun δ4 G4 σ4 H4 tp4 R4 h4 => ?_
    have nx : ∀ δ' G' σ' H', Tp H4 H' → Rl X.K B δ' G' σ' H' → (∃ G3, Ent X.K G' G3 ∧ W (i + 1) δ' G3) → ∃ δ' G', Tp H1 H' ∧ Rl X.K B δ' G' σ' H' ∧ W (i + 1) δ' G' := fun δ' G' σ' H' t' R' ⟨G5, en, w⟩ =>
      ⟨δ', G5, ((tp2.trans tp3).trans tp4).trans t', ⟨R'.s, en _ R'.g, R'.b⟩, w⟩
    have tp04 : Tp H H4 := ((t1.trans tp2).trans tp3).trans tp4
    exact l2 σ4 H4 δ4 G4 _ _ R4 h4 ⟨nx, k.rt.mono tp04, fun δ' G' σ' H' t' => k.nx δ' G' σ' H' (tp04.trans t'), nx⟩
  · have e : i = xs.length := by omega
    subst e
    exact .inl ⟨J1.stop G2 H2 tp2 R2.g st2, k.nx δ2 G2 σ2 H2 (t1.trans tp2) R2 (fin δ2 G2 w2)⟩
end
/-! ### comprehensions -/
def wsAll (δ : DSt) : List Nat → DSt
  | [] => δ
  | v :: vs => ws (wsAll δ vs) v
theorem RelS.wipe {K : PySem.W.Frag} {H : Hp} {δ : DSt} {σ : L2.St} (r : RelS K H δ σ) : ∀ vs : List Nat, RelS K H (wsAll δ vs) (wipe σ vs)
  | [] => r
  | v :: vs => (RelS.wipe r vs).weak v
/-- the targets of a comprehension store into its own slots alone -/
def OwnG (tg : TG) (vs : List Nat) : Prop := ∀ v σ H Q Q', tg v σ H Q → (∀ σ' H', Q σ' H' → wipe σ' vs = wipe σ vs → Q' σ' H') → tg v σ H Q'
/-- [elt for target in iter if test]: the list grows at p -/
def dLc (K : PySem.W.Frag) (ti : TDI) (g : TDG) (tt : TDT) (te : TDE) (vs : List Nat) : TDE := fun δ G Q => ti δ G fun xs stay G1 => ∀ p, G1 p = none → ∃ W : Nat → GH → Prop, W 0 (gu G1 p (.lst [])) ∧ (∀ i G, W i G → stay G) ∧
  (∀ i x G, xs[i]? = some x → W i G → g x (wsAll δ vs) G fun δ1 G2 => tt δ1 G2 fun b G3 => (b = true → te δ1 G3 fun d G4 => ∃ acc, G4 p = some (.lst acc) ∧ acc.length < zL ∧ ∃ G5, Ent K (gu G4 p (.lst (acc ++ [d]))) G5 ∧ W (i + 1) G5) ∧ (b = false → ∃ G5, Ent K G3 G5 ∧ W (i + 1) G5)) ∧
  ∀ G, W xs.length G → Q (dR p) G
theorem wipe_set (σ : L2.St) (j : Nat) (v : Option V) : ∀ vs : List Nat, j ∈ vs → wipe (σ.set j v) vs = wipe σ vs
  | w :: vs, h => by
    show (wipe (σ.set j v) vs).set w none = (wipe σ vs).set w none
    by_cases e : j ∈ vs
    · rw [wipe_set σ j v vs e]
    · have ew : j = w := by
        rcases List.mem_cons.mp h with h | h
        · exact h
        · exact absurd h e
      subst ew
      have hc : ∀ us : List Nat, j ∉ us → wipe (σ.set j v) us = (wipe σ us).set j v := by
        intro us
        induction us with
        | nil => intro _; rfl
        | cons u us ih =>
          intro hn
          have hn' : j ≠ u ∧ j ∉ us := by simpa using hn
          show (wipe (σ.set j v) us).set u none = ((wipe σ us).set u none).set j v
          rw [ih hn'.2, List.set_comm _ _ hn'.1]
      rw [hc vs e, List.set_set]
theorem ownG_name {j : Nat} {vs : List Nat} (h : j ∈ vs) : OwnG (gName j) vs := fun v σ H Q Q' q k => k _ _ q (wipe_set σ j _ vs h)
def OwnGs (tg : TGs) (vs : List Nat) : Prop := ∀ us σ H Q Q', tg us σ H Q → (∀ σ' H', Q σ' H' → wipe σ' vs = wipe σ vs → Q' σ' H') → tg us σ H Q'
theorem ownGs_nil {vs : List Nat} : OwnGs gNil vs := fun us σ H Q Q' q k => ⟨q.1, k _ _ q.2 rfl⟩
theorem ownGs_cons {t : TG} {u : TGs} {vs : List Nat} (h1 : OwnG t vs) (h2 : OwnGs u vs) : OwnGs (gCons t u) vs := fun us σ H Q Q' q k => by
  obtain ⟨v, r, e, q⟩ := q
  exact ⟨v, r, e, h1 v σ H _ _ q fun σ1 H1 q1 e1 => h2 r σ1 H1 _ _ q1 fun σ2 H2 q2 e2 => k σ2 H2 q2 (e2.trans e1)⟩
theorem ownG_tup {K : PySem.W.Frag} {n : Nat} {t : TGs} {vs : List Nat} (h : OwnGs t vs) : OwnG (gTup K n t) vs := fun v σ H Q Q' q k => by
  obtain ⟨a, xs, e, h1, h2, q⟩ := q
  exact ⟨a, xs, e, h1, h2, h xs σ H _ _ q k⟩
/-- a target of a comprehension, with its own slots -/
def DGo (X : Cx) (B : Hp) (e : Expr) (t : TDG) (vs : List Nat) : Prop := ∃ tg, PG X e tg ∧ LG X.K B tg t ∧ OwnG tg vs
end Dl

set_option Elab.async false
set_option linter.all false
set_option maxRecDepth 100000
set_option maxHeartbeats 4000000
/-! The data layer: comprehensions, iterables, calls, defs. -/
namespace Dl
open PySem PySem.Spec PyProof.Rows L2

/-! ### one reading for all contexts -/
def up (K : PySem.W.Frag) (B : Hp) (t : TDE) : TE := fun σ H Q' => ∃ δ G Q, Rl K B δ G σ H ∧ t δ G Q ∧ Cn K H Q Q'
def upT (K : PySem.W.Frag) (B : Hp) (t : TDT) : TT := fun σ H Q' => ∃ δ G Q, Rl K B δ G σ H ∧ t δ G Q ∧ CnT K H Q Q'
theorem up_le {K : PySem.W.Frag} {B : Hp} {t : TDE} : LE K B (up K B t) t := fun σ H δ G Q Q' R h k => ⟨δ, G, Q, R, h, k⟩
theorem upT_le {K : PySem.W.Frag} {B : Hp} {t : TDT} : LT K B (upT K B t) t := fun σ H δ G Q Q' R h k => ⟨δ, G, Q, R, h, k⟩
theorem DE.up {X : Cx} {B : Hp} {e : Expr} {t : TDE} (h : DE X B e t) : PE X e (up X.K B t) := by
  obtain ⟨te, p, l⟩ := h
  exact ⟨fun pins s σ H Q I ⟨δ, G, Q1, R, h, k⟩ => p.run pins s σ H Q I (l σ H δ G Q1 Q R h k)⟩
theorem DT.up {X : Cx} {B : Hp} {e : Expr} {t : TDT} (h : DT X B e t) : PT X e (upT X.K B t) := by
  obtain ⟨te, p, l⟩ := h
  exact ⟨fun pins s σ H Q I ⟨δ, G, Q1, R, h, k⟩ => p.run pins s σ H Q I (l σ H δ G Q1 Q R h k)⟩
theorem pts_oneU {X : Cx} {B : Hp} {c : Expr} {t : TDT} (h : DT X B c t) : PTs X [c] (upT X.K B t) := pts_one h.up
def dYes : TDT := fun _ G Q => Q true G
theorem lt_yes {K : PySem.W.Frag} {B : Hp} : LT K B tYes dYes := fun σ H δ G Q Q' R h k => k _ H G (Tp.refl H) R.g h
theorem lgs_nil {K : PySem.W.Frag} {B : Hp} : LGs K B gNil gE := fun vs ds σ H δ G Q Q' R r h k => by
  obtain ⟨e, h⟩ := h
  subst e
  cases r
  exact ⟨rfl, k δ G σ H (Tp.refl H) R h⟩
theorem lgs_cons {K : PySem.W.Frag} {B : Hp} {g : TG} {gs : TGs} {t : TDG} {u : TDGs} (l1 : LG K B g t) (l2 : LGs K B gs u) : LGs K B (gCons g gs) (gC t u) := fun vs ds σ H δ G Q Q' R r h k => by
  unfold gC at h
  split at h
  · rename_i d ds
    cases r with
    | cons r1 r2 =>
      refine ⟨_, _, rfl, l1 _ _ σ H δ G _ _ R r1 h fun δ1 G1 σ1 H1 t1 R1 h1 => ?_⟩
      exact l2 _ _ σ1 H1 δ1 G1 _ _ R1 (r2.mono t1) h1 (k.mono t1)
  · exact h.elim
theorem lg_tup {K : PySem.W.Frag} {B : Hp} {n : Nat} {g : TGs} {t : TDGs} (l : LGs K B g t) : LG K B (gTup K n g) (gT n t) := fun v d σ H δ G Q Q' R r h k => by
  unfold gT at h
  split at h
  · rename_i ds
    obtain ⟨a, vs, rfl, hs, r1⟩ := r.tup_
    exact ⟨a, vs, rfl, hs, r1.length.symm.trans h.1, l _ _ σ H δ G _ _ R r1 h.2 k⟩
  · exact h.elim
section
variable {X : Cx} {B : Hp}
theorem ll_lc {K : PySem.W.Frag} {wi : TI} {ti : TDI} {g : TG} {t : TDG} {tt : TT} {dt : TDT} {te : TE} {de : TDE} {vs : List Nat} (l0 : LI K B wi ti) (lg : LG K B g t) (og : OwnG g vs) (lt : LT K B tt dt) (le : LE K B te de) :
    LE K B (tLc wi g tt te vs) (dLc K ti t dt de vs) := fun σ H δ G Q Q' R h k => by
  refine l0 σ H δ G _ _ R h fun xs stay J G1 H1 t1 g1 J1 h1 => ?_
  intro D hD
  obtain ⟨W, w0, hst, turn, fin⟩ := h1 D (g1.fresh hD)
  have tD : Tp H1 (upd H1 D (.lst [])) := Tp.new hD
  have R0 : Rl K B δ (gu G1 D (.lst [])) σ (upd H1 D (.lst [])) := (R.next t1 g1).next tD (g1.new (m := .lst []) hD ⟨rfl, _, rfl, .nil⟩)
  refine ⟨fun i m H' => m = xs.length - i ∧ i ≤ xs.length ∧ ∃ G', Tp H1 H' ∧ Rl K B δ G' σ H' ∧ W i G', ⟨xs.length, rfl, Nat.zero_le _, _, tD, R0, w0⟩, ?_⟩
  rintro i m H2 ⟨rfl, hi, G2, tp2, R2, w2⟩
  have st2 := hst i G2 w2
  by_cases hlt : i < xs.length
  · refine .inr ⟨J1.go i G2 H2 tp2 R2.g st2 hlt, fun H' => ∃ G', Tp H1 H' ∧ Rl K B δ G' σ H' ∧ W (i + 1) G', fun H' q => ⟨xs.length - (i + 1), by omega, rfl, hlt, q⟩, fun x H3 y => ?_⟩
    obtain ⟨d, ed, tp3, g3, r3⟩ := J1.yl i G2 H2 x H3 tp2 R2.g st2 hlt y
    have R3 : Rl K B (wsAll δ vs) G2 (wipe σ vs) H3 := ⟨(R2.s.mono tp3).wipe vs, g3, R2.b.trans tp3⟩
    refine og x (wipe σ vs) H3 (fun σ4 H4 => ∃ δ4 G4, Tp H3 H4 ∧ Rl K B δ4 G4 σ4 H4 ∧ (dt δ4 G4 fun b G3 => (b = true → de δ4 G3 fun d G4 => ∃ acc, G4 D = some (.lst acc) ∧ acc.length < zL ∧ ∃ G5, Ent K (gu G4 D (.lst (acc ++ [d]))) G5 ∧ W (i + 1) G5) ∧ (b = false → ∃ G5, Ent K G3 G5 ∧ W (i + 1) G5))) _
      (lg x d (wipe σ vs) H3 (wsAll δ vs) G2 _ _ R3 r3 (turn i d G2 ed w2) fun δ4 G4 σ4 H4 tp4 R4 h4 => ⟨δ4, G4, tp4, R4, h4⟩) fun σ4 H4 ⟨δ4, G4, tp4, R4, h4⟩ e4 => ?_
    have ww : ∀ us : List Nat, wipe (wipe σ us) us = wipe σ us := by
      have aux : ∀ (us : List Nat) (τ : L2.St), (∀ j ∈ us, τ[j]? = none ∨ τ[j]? = some none) → wipe τ us = τ := by
        intro us
        induction us with
        | nil => intro τ _; rfl
        | cons u us ih =>
          intro τ hτ
          show (wipe τ us).set u none = τ
          rw [ih τ fun j hj => hτ j (List.mem_cons_of_mem _ hj)]
          rcases hτ u List.mem_cons_self with h | h
          · exact List.set_eq_of_length_le (by simpa using h)
          · have hu := (List.getElem?_eq_some_iff.mp h)
            obtain ⟨hu, he⟩ := hu
            refine List.ext_getElem (by simp) fun n h1 h2 => ?_
            rw [List.getElem_set]
            split
            · rename_i e; subst e; exact he.symm
            · rfl
      intro us
      refine aux us _ fun j hj => ?_
      cases q : (wipe σ us)[j]? with
      | none => exact .inl rfl
      | some o =>
        cases o with
        | none => exact .inr rfl
        | some v => exact absurd hj (wipe_some q).2
    refine ⟨e4.trans (ww vs), ?_⟩
    have tp14 : Tp H1 H4 := (tp2.trans tp3).trans tp4
    refine lt σ4 H4 δ4 G4 _ _ R4 h4 fun b H5 G5 tp5 g5 h5 => ?_
    cases b with
    | true =>
      rw [if_pos rfl]
      refine le σ4 H5 δ4 G5 _ _ (R4.next tp5 g5) (h5.1 rfl) fun v H6 d6 G6 tp6 g6 r6 h6 => ?_
      obtain ⟨acc, e6, hz, G7, en, w7⟩ := h6
      obtain ⟨vs6, f6, rr⟩ := g6.lst e6
      have tp7 : Tp H6 (upd H6 D (.lst (vs6 ++ [v]))) := Tp.set f6 trivial
      refine ⟨vs6, f6, by rw [← rr.length, ← zL_eq]; exact hz, G7, ((tp14.trans tp5).trans tp6).trans tp7, ⟨R2.s.mono ((((tp3.trans tp4).trans tp5).trans tp6).trans tp7), en _ ?_, R2.b.trans ((((tp3.trans tp4).trans tp5).trans tp6).trans tp7)⟩, w7⟩
      exact g6.set (m := .lst (acc ++ [d6])) e6 f6 trivial ⟨rfl, _, rfl, (rr.mono tp7).app (.cons (r6.mono tp7) .nil)⟩
    | false =>
      rw [if_neg Bool.false_ne_true]
      obtain ⟨G7, en, w7⟩ := h5.2 rfl
      exact ⟨G7, tp14.trans tp5, ⟨R2.s.mono ((tp3.trans tp4).trans tp5), en _ g5, R2.b.trans ((tp3.trans tp4).trans tp5)⟩, w7⟩
  · have e : i = xs.length := by omega
    subst e
    exact .inl ⟨J1.stop G2 H2 tp2 R2.g st2, k _ H2 _ G2 (t1.trans tp2) R2.g (.at _) (fin G2 w2)⟩
theorem de_lc {elt tg iter : Expr} {ifs : List Expr} {scope : Scope} {own : List (Str × Nat)} {pos : Pos} {ti : TDI} {g : TG} {t : TDG} {tt : TT} {dt : TDT} {de : TDE} (hc : X.calm = true) (hN : X.N.Nodup) (hi : DI X B tg iter ti) (ok : BlkOk X.N X.env.scope scope own)
    (hg : ∀ (s : Shared) (H : Hp) (C : Addr) (cl : List (Str × Addr)) (fp : List Addr), PG (X.blk s H scope (compEnvC scope cl C X.env) fp) tg g) (lg : LG X.K B g t) (og : OwnG g (own.map (·.2)))
    (ht : ∀ (s : Shared) (H : Hp) (C : Addr) (cl : List (Str × Addr)) (fp : List Addr), PTs (X.blk s H scope (compEnvC scope cl C X.env) fp) ifs tt) (lt : LT X.K B tt dt)
    (he : ∀ (s : Shared) (H : Hp) (C : Addr) (cl : List (Str × Addr)) (fp : List Addr), DE (X.blk s H scope (compEnvC scope cl C X.env) fp) B elt de) (hs : ∀ x, foldedSetIterable iter X.env x = pure x := by intro _; rfl) :
    DE X B (.ListComp elt [⟨tg, iter, ifs, 0⟩] scope pos) (dLc X.K ti t dt de (own.map (·.2))) := by
  obtain ⟨wi, p0, l0⟩ := hi
  exact ⟨_, pe_lc hc hN p0 ok hg ht (fun s H C cl fp => (he s H C cl fp).up) hs, ll_lc l0 lg og lt up_le⟩
/-- y = [..], y a local, on one line -/
theorem ds_setLc {i : Nat} {y : Str} {py : Pos} {elt tg iter : Expr} {ifs : List Expr} {scope : Scope} {own : List (Str × Nat)} {pos spos : Pos} {ti : TDI} {g : TG} {t : TDG} {tt : TT} {dt : TDT} {de : TDE} (hc : X.calm = true) (hN : X.N.Nodup) (hy : X.N[i]? = some y) (hyl : X.env.scope.names.lookup y = some .local)
    (hsw : swapsWith (.ListComp elt [⟨tg, iter, ifs, 0⟩] scope pos) (some (.Name y py)) spos.line X.env = pure true) (hi : DI X B tg iter ti) (ok : BlkOk X.N X.env.scope scope own)
    (hg : ∀ (s : Shared) (H : Hp) (C : Addr) (cl : List (Str × Addr)) (fp : List Addr), PG (X.blk s H scope (compEnvC scope cl C X.env) fp) tg g) (lg : LG X.K B g t) (og : OwnG g (own.map (·.2)))
    (ht : ∀ (s : Shared) (H : Hp) (C : Addr) (cl : List (Str × Addr)) (fp : List Addr), PTs (X.blk s H scope (compEnvC scope cl C X.env) fp) ifs tt) (lt : LT X.K B tt dt)
    (he : ∀ (s : Shared) (H : Hp) (C : Addr) (cl : List (Str × Addr)) (fp : List Addr), DE (X.blk s H scope (compEnvC scope cl C X.env) fp) B elt de) (hs : ∀ x, foldedSetIterable iter X.env x = pure x := by intro _; rfl) :
    DS X B (.Assign [.Name y py] (.ListComp elt [⟨tg, iter, ifs, 0⟩] scope pos) spos) (dAsg (dLc X.K ti t dt de (own.map (·.2))) (gN i)) := by
  obtain ⟨wi, p0, l0⟩ := hi
  exact ⟨_, ps_setLc hc hN hy hyl hsw p0 ok hg ht (fun s H C cl fp => (he s H C cl fp).up) hs, ls_asg (ll_lc l0 lg og lt up_le) lg_name⟩
end

/-! ### what is walked -/
def iSeqD (te : TDE) : TDI := fun δ G R => te δ G fun d G1 => match d with
  | .tup xs => R xs (fun _ => True) G1
  | _ => False
def iLstD (te : TDE) : TDI := fun δ G R => te δ G fun d G1 => match d with
  | .at (.ref p) => ∃ xs, G1 p = some (.lst xs) ∧ R xs (fun G => G p = some (.lst xs)) G1
  | .frl xs => R xs (fun _ => True) G1
  | _ => False
def rgD (lo : Int) (n : Nat) : List D := (List.range n).map fun (i : Nat) => dI (lo + (i : Int))
theorem rgD_len (lo : Int) (n : Nat) : (rgD lo n).length = n := by simp [rgD]
theorem rgD_get {lo : Int} {n i : Nat} (h : i < n) : (rgD lo n)[i]? = some (dI (lo + (i : Int))) := by
  unfold rgD
  rw [List.getElem?_map, List.getElem?_range h]
  rfl
theorem rgD_of {lo : Int} {n i : Nat} {d : D} (h : (rgD lo n)[i]? = some d) : i < n ∧ d = dI (lo + (i : Int)) := by
  have hi : i < n := by have := (List.getElem?_eq_some_iff.mp h).1; rwa [rgD_len] at this
  rw [rgD_get hi] at h
  exact ⟨hi, (Option.some.inj h).symm⟩
def iRng1D (ta : TDA) : TDI := fun δ G R => ta δ G fun ds G1 => match ds with
  | [.at (.int j)] => (j < 2 ^ 62 ∧ -(2 ^ 62) ≤ j) ∧ R (rgD 0 j.toNat) (fun _ => True) G1
  | _ => False
def iRng2D (ta : TDA) : TDI := fun δ G R => ta δ G fun ds G1 => match ds with
  | [.at (.int i), .at (.int j)] => (-(2 ^ 62) ≤ i ∧ i < 2 ^ 62 ∧ -(2 ^ 62) ≤ j ∧ j < 2 ^ 62) ∧ R (rgD i (j - i).toNat) (fun _ => True) G1
  | _ => False
section
variable {X : Cx} {B : Hp} {tg e : Expr} {te : TDE} {pos : Pos}
theorem di_tup (he : DE X B e te) : DI X B tg e (iSeqD te) := by
  obtain ⟨t1, p1, l1⟩ := he
  refine ⟨_, pi_tup p1, fun σ H δ G R R' Rr h k => l1 σ H δ G _ _ Rr h fun v H1 d G1 t1 g1 r1 h1 => ?_⟩
  split at h1
  · rename_i xs
    obtain ⟨a, vs, rfl, hs, r⟩ := r1.tup_
    refine ⟨a, rfl, ⟨vs, hs⟩, k xs _ _ G1 H1 t1 g1 ?_ h1⟩
    refine ⟨fun i G H t g _ hi => ⟨vs, vs[i]'(by rw [← r.length]; exact hi), t.sqt hs, by simp⟩, fun i G H x H' t g _ _ y => ?_, fun G H t g _ => ⟨vs, t.sqt hs, by rw [← r.length]; exact Nat.le_refl _⟩, fun _ _ _ _ => trivial⟩
    obtain ⟨e, y⟩ := y
    subst e
    obtain ⟨d, e1, e2⟩ := r.getV (y vs (t.sqt hs))
    exact ⟨d, e1, Tp.refl _, g, e2.mono t⟩
  · exact h1.elim
theorem di_lst (he : DE X B e te) : DI X B tg e (iLstD te) := by
  obtain ⟨t1, p1, l1⟩ := he
  refine ⟨_, pi_list p1, fun σ H δ G R R' Rr h k => l1 σ H δ G _ _ Rr h fun v H1 d G1 t1 g1 r1 h1 => ?_⟩
  split at h1
  · rename_i p
    obtain ⟨xs, e0, h1⟩ := h1
    obtain ⟨vs, f1, r⟩ := g1.lst e0
    refine ⟨p, r1.at_, ⟨vs, SqL.of f1⟩, k xs _ _ G1 H1 t1 g1 ?_ h1⟩
    refine ⟨fun i G H t g st hi => ?_, fun i G H x H' t g st _ y => ?_, fun G H t g st => ?_, fun G G' l st => l _ _ st⟩
    · obtain ⟨us, f2, r2⟩ := g.lst st
      exact ⟨us, us[i]'(by rw [← r2.length]; exact hi), SqL.of f2, by simp⟩
    · obtain ⟨us, f2, r2⟩ := g.lst st
      obtain ⟨e, y⟩ := y
      subst e
      obtain ⟨d, e1, e2⟩ := r2.getV (y us (SqL.of f2))
      exact ⟨d, e1, Tp.refl _, g, e2⟩
    · obtain ⟨us, f2, r2⟩ := g.lst st
      exact ⟨us, SqL.of f2, by rw [← r2.length]; exact Nat.le_refl _⟩
  · rename_i xs
    obtain ⟨a, vs, rfl, hs, r⟩ := r1.frl_
    refine ⟨a, rfl, ⟨vs, hs.sql⟩, k xs _ _ G1 H1 t1 g1 ?_ h1⟩
    refine ⟨fun i G H t g _ hi => ⟨vs, vs[i]'(by rw [← r.length]; exact hi), (t.sqf hs).sql, by simp⟩, fun i G H x H' t g _ _ y => ?_, fun G H t g _ => ⟨vs, (t.sqf hs).sql, by rw [← r.length]; exact Nat.le_refl _⟩, fun _ _ _ _ => trivial⟩
    obtain ⟨e, y⟩ := y
    subst e
    obtain ⟨d, e1, e2⟩ := r.getV (y vs (t.sqf hs).sql)
    exact ⟨d, e1, Tp.refl _, g, e2.mono t⟩
  · exact h1.elim
theorem wk_rng {K : PySem.W.Frag} {H0 : Hp} {lo : Int} {n : Nat} : Wk K H0 (rgD lo n) (fun _ => True) (L2.Itr lo n) where
  go := fun i G H t g _ hi => by
    rw [rgD_len] at hi
    exact hi
  yl := fun i G H x H' t g _ hi y => by
    obtain ⟨rfl, rfl⟩ := y
    rw [rgD_len] at hi
    exact ⟨_, rgD_get hi, Tp.refl _, g, .at _⟩
  stop := fun G H t g _ => by
    have h : n ≤ (rgD lo n).length := by rw [rgD_len]; exact Nat.le_refl _
    exact h
  le := fun _ _ _ _ => trivial
theorem di_range1 {a : Expr} {ta : TDA} {p pos : Pos} (hg : Gl X "range") (hm : X.mg "range" = none) (ha : DA X B [a] ta) (hs : starEach [a] X.env = [(false, eval a X.env)] := by rfl) : DI X B tg (.Call (.Name "range" p) [a] [] pos) (iRng1D ta) := by
  obtain ⟨t1, p1, l1⟩ := ha
  refine ⟨_, pi_range1 hg hm p1 hs, fun σ H δ G R R' Rr h k => l1 σ H δ G _ _ Rr h fun vs H1 ds G1 t1 g1 r1 h1 => ?_⟩
  split at h1
  · rename_i j
    obtain ⟨v, rfl, rv⟩ := r1.one
    exact ⟨j, by rw [rv.at_], h1.1.2, h1.1.1, k _ _ _ G1 H1 t1 g1 wk_rng h1.2⟩
  · exact h1.elim
theorem di_range2 {a b : Expr} {ta : TDA} {p pos : Pos} (hg : Gl X "range") (hm : X.mg "range" = none) (ha : DA X B [a, b] ta) (hs : starEach [a, b] X.env = [(false, eval a X.env), (false, eval b X.env)] := by rfl) (hs2 : starEach [b] X.env = [(false, eval b X.env)] := by rfl) :
    DI X B tg (.Call (.Name "range" p) [a, b] [] pos) (iRng2D ta) := by
  obtain ⟨t1, p1, l1⟩ := ha
  refine ⟨_, pi_range2 hg hm p1 hs hs2, fun σ H δ G R R' Rr h k => l1 σ H δ G _ _ Rr h fun vs H1 ds G1 t1 g1 r1 h1 => ?_⟩
  split at h1
  · rename_i i j
    obtain ⟨v, w, rfl, rv, rw'⟩ := r1.two
    exact ⟨i, j, by rw [rv.at_, rw'.at_], h1.1, k _ _ _ G1 H1 t1 g1 wk_rng h1.2⟩
  · exact h1.elim
/-- the signs of a text -/
def chD (z : Str) : List D := z.cps.toList.map fun c => dS ⟨#[c]⟩
def iStrD (te : TDE) : TDI := fun δ G R => te δ G fun d G1 => match d with
  | .at (.str z) => R (chD z) (fun _ => True) G1
  | _ => False
theorem di_str (he : DE X B e te) : DI X B tg e (iStrD te) := by
  obtain ⟨t1, p1, l1⟩ := he
  refine ⟨_, pi_str p1, fun σ H δ G R R' Rr h k => l1 σ H δ G _ _ Rr h fun v H1 d G1 t1 g1 r1 h1 => ?_⟩
  split at h1
  · rename_i z
    refine ⟨z, r1.at_, k _ _ _ G1 H1 t1 g1 ⟨fun i G H t g _ hi => ?_, fun i G H x H' t g _ hi y => ?_, fun G H t g _ => ?_, fun _ _ _ _ => trivial⟩ h1⟩
    · have h : i < z.cps.size := by simpa [chD] using hi
      exact h
    · obtain ⟨rfl, c, ec, rfl⟩ := y
      refine ⟨_, ?_, Tp.refl _, g, .at _⟩
      unfold chD
      rw [List.getElem?_map, Array.getElem?_toList, ec]
      rfl
    · have h : z.cps.size ≤ (chD z).length := by simp [chD]
      exact h
  · exact h1.elim
end

/-! ### enumerate -/
end Dl
namespace PySem
open Sem (wp)
open AutoSeq1 (wpAny_loadPart')
theorem meets_enumerate_newT (l : Addr) (items : Array Value) (n : Nat) (dct : Option Addr) (sl : Array (Option Value)) :
    Meets (Builtin.«enumerate.__new__» ⟨[.type "enumerate", .ref l], []⟩) (fun _ R s => s.heap.get? l = some { cls := .type "tuple", dict := dct, data := .seq items n, slots := sl } ∧
      R (.ok (.ret (.ref (s.heap.push { cls := .type "tuple_iterator", data := .fields #[.ref l, .int 0 0] }).objs.size)))
        { s with heap := (s.heap.push { cls := .type "tuple_iterator", data := .fields #[.ref l, .int 0 0] }).push { cls := .type "enumerate", data := .fields #[.none, .bool false, .ref s.heap.objs.size, rawInt 0, .none, .none] } }) :=
  .of_wp fun prog w A R s h => by
    obtain ⟨hp, g, d, tk, os⟩ := s; obtain ⟨hl, h⟩ := h
    have hsub := sub_enumerate
    have hL : Heap.IsTuple (Shared.heap ⟨hp, g, d, tk, os⟩) l items := ⟨_, hl, rfl, n, rfl⟩
    wp_walk using wpAny_loadPart' hl
    refine wpAny_stack_any fun st => wpAny_pure ?_
    split
    · rename_i c _ _ _ _ _
      cases (c == Value.type "enumerate")
      · wp_walk using wpAny_loadPart' hl, wpAny_pyIter_tuple hL
        exact ⟨_, rfl, h⟩
      · wp_walk using wpAny_loadPart' hl, wpAny_pyIter_tuple hL
        exact ⟨_, rfl, h⟩
    · wp_walk using wpAny_loadPart' hl, wpAny_pyIter_tuple hL
      exact ⟨_, rfl, h⟩
section
variable {prog : Program} {w : World} {A : Around} {E : Value → Shared → Prop} {s : Shared}
theorem call_enumerate_tuple {l : Addr} {items : Array Value} {Q : Value → Shared → Prop} (hL : s.heap.IsTuple l items)
    (h : ∀ h', IsEnum h' (s.heap.objs.size + 1) s.heap.objs.size 0 .none → h'.IsTupleIter s.heap.objs.size l 0 → h'.objs.size = s.heap.objs.size + 2 →
      (∀ b o, s.heap.get? b = some o → h'.get? b = some o) → Q (.ref (s.heap.objs.size + 1)) { s with heap := h' }) :
    wpAny (model prog w) A (call (.type "enumerate") [.ref l]) Q E s := by
  obtain ⟨⟨c, dct, dt, sl⟩, hl, hc, n, hd⟩ := hL
  replace hc : c = .type "tuple" := hc
  replace hd : dt = .seq items n := hd
  subst hc hd
  refine callType_new F.called_enumerate (by decide) (F.typeCall_enumerate_1 _) (F.newCall_enumerate_1 _) (fun obj => F.args_object_init_2 obj _) F.entry_enumerate_new
    (meets_enumerate_newT l items n dct sl) ⟨hl, ?_⟩
  have hz : (s.heap.push { cls := .type "tuple_iterator", data := .fields #[.ref l, .int 0 0] }).objs.size = s.heap.objs.size + 1 := Heap.size_push ..
  show _ ∧ _
  rw [hz]
  have he : IsEnum ((s.heap.push { cls := .type "tuple_iterator", data := .fields #[.ref l, .int 0 0] }).push
      { cls := .type "enumerate", data := .fields #[.none, .bool false, .ref s.heap.objs.size, rawInt 0, .none, .none] }) (s.heap.objs.size + 1) s.heap.objs.size 0 .none := by
    have := Heap.get?_push_size (s.heap.push { cls := .type "tuple_iterator", data := .fields #[.ref l, .int 0 0] })
      (o := { cls := .type "enumerate", data := .fields #[.none, .bool false, .ref s.heap.objs.size, rawInt 0, .none, .none] }) rfl
    rw [hz] at this; exact this
  refine ⟨⟨_, he, rfl⟩, h _ he ⟨_, Heap.get?_push_of_some _ (Heap.get?_push_size _ rfl), rfl, rfl⟩ (by rw [Heap.size_push, hz]) fun b o x => Heap.get?_push_of_some _ (Heap.get?_push_of_some _ x)⟩
theorem wpAny_pyNext_enum_endT {e it l : Addr} {i : Nat} {items : Array Value} {old : Value} {Q : Option Value → Shared → Prop} (hh : A.handled = none)
    (he : IsEnum s.heap e it i old) (hit : s.heap.IsTupleIter it l i) (hl : s.heap.IsTuple l items) (hx : items[i]? = none)
    (hQ : ∀ h', Heap.ExtBut it s.heap h' → Q none { s with heap := h' }) : wpAny (model prog w) A (pyNext (.ref e)) Q E s := by
  have hT : s.TypeIs (.ref e) "enumerate" := ⟨_, he, rfl⟩
  unfold pyNext
  refine wpAny_bind (wpAny_attempt (wpAny_callSpecial?_slot (name := Str.ofString "__next__") hT F.slot_enumerate_next
    (wpAny_call_entry F.slot_enumerate_next hT F.entry_enumerate_next ?_ (F.args_enumerate_next_1 _))))
  show wpAny _ _ (field (.ref e) 2 >>= _) _ _ _
  refine wpAny_bind (wpAny_field he rfl (x := .ref it) rfl ?_)
  refine wpAny_bind (wpAny_nextOf_tuple_end (A := A.in1) hh hit hl hx fun h' x he' hx' => ?_)
  obtain ⟨o, ho, hc⟩ := hx'
  refine wpAny_bind (wpAny_isInstance (T := "StopIteration") (b := true) ⟨o, ho, hc⟩ isSubtype_stop ?_)
  exact wpAny_pure (hQ _ he')
end
end PySem
namespace Dl
open PySem PySem.Spec PyProof.Rows L2
def IteT (K : PySem.W.Frag) (a : Addr) : It :=
  ⟨fun i H => ∃ (xs : List V) (x : V), SqT K H a xs ∧ xs[i]? = some x, fun i H v H' => ∃ T x, v = .ref T ∧ H T = none ∧ H' = upd H T (.tup [.int (i : Nat), x]) ∧ ∀ xs, SqT K H a xs → xs[i]? = some x, fun i H => ∃ xs : List V, SqT K H a xs ∧ xs.length ≤ i⟩
theorem turn_enumT {P : Program} {w : World} {K : PySem.W.Frag} {elts : List Expr} {kk : Nat} {tpos : Pos} (a e it : Addr) :
    Turn P w K (.Tuple elts kk tpos) (IteT K a) [e, it] e (fun i h => (∃ old, IsEnum h e it ((i : Nat) : Int) old) ∧ h.IsTupleIter it a i ∧ e ≠ it) where
  mem := by simp
  obj := fun i h st b hb => by
    obtain ⟨⟨old, he⟩, ⟨o, ho, hc, hd⟩, _⟩ := st
    have e' : b = e ∨ b = it := by simpa using hb
    rcases e' with z | z
    · rw [z]; exact ⟨_, he, fun v q => nomatch q⟩
    · rw [z]; exact ⟨o, ho, fun v q => by rw [hd] at q; cases q⟩
  keep := fun i h h' st k => let ⟨⟨old, he⟩, hi, hne⟩ := st; ⟨⟨old, k e (by simp) _ he⟩, hi.at fun o q => k it (by simp) o q, hne⟩
  item := by
    intro X hP hw hK hc i pins s σ H E I hf st hg
    subst hP hw hK
    obtain ⟨⟨old, he⟩, hit, hne⟩ := st
    obtain ⟨xs, x, hq, hx⟩ := hg
    obtain ⟨its, rv, p, hz⟩ := I.tuple hq
    obtain ⟨u, hu, ru⟩ := rv.get hx
    have hel : e < s.heap.objs.size := Heap.lt_size he
    have hil : it < s.heap.objs.size := by obtain ⟨_, q, _⟩ := hit; exact Heap.lt_size q
    have hai : a ≠ it := by
      rintro rfl
      obtain ⟨o1, e1, c1, _⟩ := p
      obtain ⟨o2, e2, c2, _⟩ := hit
      rw [e1] at e2; cases e2
      rw [c1] at c2; exact absurd c2 (by decide +kernel)
    have hea : e ≠ a := by
      rintro rfl
      obtain ⟨o1, e1, c1, _⟩ := p
      have e2 : s.heap.get? e = some _ := he
      rw [e1] at e2; cases e2
      exact absurd (show Value.type "enumerate" = Value.type "tuple" from c1) (by decide +kernel)
    have hlt : i < its.toArray.size := by
      have := (List.getElem?_eq_some_iff.mp hu).1
      simpa using this
    refine wpAny_pyNext_enum_itemD (Draws.tuple (A := X.A.in1) (I.ok.hd hc) it a hai its.toArray) he ⟨hit, p⟩ hlt hne (by simp [hne, hea]) fun x1 h' tk hx1 ho hit' hT hsz hk => ?_
    have ex : x1 = u := by
      have h1 : its[i]? = some x1 := by simpa using hx1
      rw [hu] at h1
      exact (Option.some.inj h1).symm
    subst ex
    refine ⟨_, rfl, wpAny_letOwnedTupleGo_enum (s := { s with heap := h', toks := tk + 1 }) ho fun h'' he' sb => ?_⟩
    have hT2 : h''.get? s.heap.objs.size = some { cls := .type "tuple", data := .seq #[.int i tk, x1] } := (sb.2 _ (Nat.ne_of_gt hel)).trans hT
    have new : ObjOk X.prog X.w (upd H s.heap.objs.size (.tup [.int (i : Nat), x])) h'' s.heap.objs.size (.tup [.int (i : Nat), x]) :=
      ⟨by show 2 ≤ sizeLine; decide, [.int i tk, x1], .cons ⟨_, rfl⟩ (.cons ru .nil), ⟨_, hT2, rfl, _, rfl⟩⟩
    have I1 : Inv X pins σ (upd H s.heap.objs.size (.tup [.int (i : Nat), x])) { s with heap := h'', toks := tk + 1 } :=
      I.turnedNew (ch := [e, it]) (fun b ob hb q => (sb.2 b (fun z => hb (by simp [z]))).trans (hk b ob (fun z => hb (by simp [z])) (fun z => hb (by simp [z])) q)) hf (Nat.le_refl _) new
    refine ⟨.ref s.heap.objs.size, _, I1, rfl, ⟨_, x, rfl, I.hok.fresh (Nat.le_refl _), rfl, fun ys hy => by rw [I.tuple_inj hy hq]; exact hx⟩, ⟨⟨x1, ?_⟩, hit'.1.at fun o q => (sb.2 it (Ne.symm hne)).trans q, hne⟩, fun b hb => ?_⟩
    · have e1 : ((i + 1 : Nat) : Int) = (i : Int) + 1 := by omega
      rw [e1]; exact he'
    · have hb' : b < s.heap.objs.size := by
        have e' : b = e ∨ b = it := by simpa using hb
        rcases e' with z | z
        · rw [z]; exact hel
        · rw [z]; exact hil
      rw [upd_ne (Nat.ne_of_lt hb')]
      exact (hf b hb).1
  done := by
    intro X hP hw hK hc i pins s σ H E I hf st hg
    subst hP hw hK
    obtain ⟨⟨old, he⟩, hit, hne⟩ := st
    obtain ⟨xs, hq, hx⟩ := hg
    obtain ⟨its, rv, p, hz⟩ := I.tuple hq
    obtain ⟨f0, f1, f2, f3, f4, f5⟩ := hf it (by simp)
    have hl := rv.length
    exact wpAny_pyNext_enum_endT (I.ok.hd hc) he hit p (by simp; omega) fun h' eb => ⟨rfl, I.turned (t' := s.toks) (fun b o hb q => eb b o hb q) f0 f1 f3 f4 f5⟩
  self := fun A i s Q E st h => let ⟨⟨_, he⟩, _⟩ := st; wpAny_pyIter_enum he h
section
variable {X : Cx} {B : Hp} {e : Expr} {te : TDE} {ta : TDA} {pos : Pos}
def iEnumT (K : PySem.W.Frag) (ta : TA) : TI := fun σ H R => ta σ H fun vs H1 => ∃ a xs, vs = [.ref a] ∧ SqT K H1 a xs ∧ R (IteT K a) H1
theorem pi_enumT {e : Expr} {ta : TA} {p pos tpos : Pos} {elts : List Expr} {kk : Nat} (hg : Gl X "enumerate") (hm : X.mg "enumerate" = none) (ha : PA X [e] ta) (hs : starEach [e] X.env = [(false, eval e X.env)] := by rfl) :
    PI X (.Tuple elts kk tpos) (.Call (.Name "enumerate" p) [e] [] pos) (iEnumT X.K ta) := by
  refine ⟨fun pins s σ H R I h => ?_⟩
  refine Call_ (ld_blt I hg hm boot_enumerate (PyProof.Rows.callWith_type1 (thn (ha.run pos pins s σ H _ I h) fun us s1 ⟨vs, H1, I1, r1, q1⟩ => ?_) hs rfl))
  obtain ⟨a, xs, ex, hq, q⟩ := q1
  subst ex
  cases r1 with
  | cons r rr =>
    cases rr
    cases r
    obtain ⟨its, rv, p', hz⟩ := I1.tuple hq
    refine call_enumerate_tuple p' fun h' he hit hsz hk => wpAny_pyIter_enum he ?_
    have I2 : Inv X pins σ H1 { s1 with heap := h' } := I1.kept (t' := s1.toks) hk
    refine ⟨s1.heap.objs.size + 1, [s1.heap.objs.size + 1, s1.heap.objs.size], _, _, H1, rfl, I2, turn_enumT a (s1.heap.objs.size + 1) s1.heap.objs.size, ⟨⟨.none, he⟩, hit, Nat.succ_ne_self _⟩, fun b hb => ?_, q⟩
    have e' : b = s1.heap.objs.size + 1 ∨ b = s1.heap.objs.size := by simpa using hb
    have hle : s1.heap.objs.size ≤ b := by
      rcases e' with z | z
      · rw [z]; exact Nat.le_succ _
      · rw [z]; exact Nat.le_refl _
    exact I1.fpOk hle (I1.hok.fresh hle)
/-- the items with their numbers -/
def enD (xs : List D) : List D := xs.mapIdx fun i d => .tup [dI (i : Nat), d]
theorem enD_len (xs : List D) : (enD xs).length = xs.length := by simp [enD]
theorem enD_get {xs : List D} {i : Nat} {d : D} (h : xs[i]? = some d) : (enD xs)[i]? = some (.tup [dI (i : Nat), d]) := by
  unfold enD
  rw [List.getElem?_mapIdx, h]
  rfl
theorem enD_of {xs : List D} {i : Nat} {d : D} (h : (enD xs)[i]? = some d) : ∃ x, xs[i]? = some x ∧ d = .tup [dI (i : Nat), x] := by
  unfold enD at h
  rw [List.getElem?_mapIdx] at h
  cases e : xs[i]? with
  | none => rw [e] at h; cases h
  | some x => rw [e] at h; exact ⟨x, rfl, (Option.some.inj h).symm⟩
def iEnTD (ta : TDA) : TDI := fun δ G R => ta δ G fun ds G1 => match ds with
  | [.tup xs] => R (enD xs) (fun _ => True) G1
  | _ => False
def iEnLD (ta : TDA) : TDI := fun δ G R => ta δ G fun ds G1 => match ds with
  | [.at (.ref p)] => ∃ xs, G1 p = some (.lst xs) ∧ R (enD xs) (fun G => G p = some (.lst xs)) G1
  | _ => False
theorem di_enumT {p pos tpos : Pos} {elts : List Expr} {kk : Nat} (hg : Gl X "enumerate") (hm : X.mg "enumerate" = none) (ha : DA X B [e] ta) (hs : starEach [e] X.env = [(false, eval e X.env)] := by rfl) :
    DI X B (.Tuple elts kk tpos) (.Call (.Name "enumerate" p) [e] [] pos) (iEnTD ta) := by
  obtain ⟨t1, p1, l1⟩ := ha
  refine ⟨_, pi_enumT hg hm p1 hs, fun σ H δ G R R' Rr h k => l1 σ H δ G _ _ Rr h fun vs H1 ds G1 t1 g1 r1 h1 => ?_⟩
  split at h1
  · rename_i xs
    obtain ⟨v, rfl, rv⟩ := r1.one
    obtain ⟨a, us, rfl, hs, r⟩ := rv.tup_
    refine ⟨a, us, rfl, hs, k _ _ _ G1 H1 t1 g1 ⟨fun i G H t g _ hi => ?_, fun i G H x H' t g _ hi y => ?_, fun G H t g _ => ?_, fun _ _ _ _ => trivial⟩ h1⟩
    · rw [enD_len] at hi
      exact ⟨us, us[i]'(by rw [← r.length]; exact hi), t.sqt hs, by simp⟩
    · obtain ⟨T, x1, rfl, hT, rfl, y⟩ := y
      obtain ⟨d, e1, e2⟩ := r.getV (y us (t.sqt hs))
      have tp : Tp H (upd H T (.tup [.int (i : Nat), x1])) := Tp.new hT
      refine ⟨_, enD_get e1, tp, (g.new (m := .raw _) hT ⟨rfl, rfl⟩).le (Le.new (g.fresh hT)), .tup (SqT.of upd_same) (.cons (.at _) (.cons (e2.mono (t.trans tp)) .nil))⟩
    · rw [enD_len]
      exact ⟨us, t.sqt hs, by rw [← r.length]; exact Nat.le_refl _⟩
  · exact h1.elim
theorem di_enumL {p pos tpos : Pos} {elts : List Expr} {kk : Nat} (hg : Gl X "enumerate") (hm : X.mg "enumerate" = none) (ha : DA X B [e] ta) (hs : starEach [e] X.env = [(false, eval e X.env)] := by rfl) :
    DI X B (.Tuple elts kk tpos) (.Call (.Name "enumerate" p) [e] [] pos) (iEnLD ta) := by
  obtain ⟨t1, p1, l1⟩ := ha
  refine ⟨_, pi_enum hg hm p1 hs, fun σ H δ G R R' Rr h k => l1 σ H δ G _ _ Rr h fun vs H1 ds G1 t1 g1 r1 h1 => ?_⟩
  split at h1
  · rename_i p
    obtain ⟨xs, e0, h1⟩ := h1
    obtain ⟨v, rfl, rv⟩ := r1.one
    obtain ⟨us, f1, r⟩ := g1.lst e0
    refine ⟨p, us, by rw [rv.at_], SqL.of f1, k _ _ _ G1 H1 t1 g1 ⟨fun i G H t g st hi => ?_, fun i G H x H' t g st hi y => ?_, fun G H t g st => ?_, fun G G' l st => l _ _ st⟩ h1⟩
    · rw [enD_len] at hi
      obtain ⟨ws, f2, r2⟩ := g.lst st
      exact ⟨ws, ws[i]'(by rw [← r2.length]; exact hi), SqL.of f2, by simp⟩
    · obtain ⟨T, x1, rfl, hT, rfl, y⟩ := y
      obtain ⟨ws, f2, r2⟩ := g.lst st
      obtain ⟨d, e1, e2⟩ := r2.getV (y ws (SqL.of f2))
      have tp : Tp H (upd H T (.tup [.int (i : Nat), x1])) := Tp.new hT
      refine ⟨_, enD_get e1, tp, (g.new (m := .raw _) hT ⟨rfl, rfl⟩).le (Le.new (g.fresh hT)), .tup (SqT.of upd_same) (.cons (.at _) (.cons (e2.mono tp) .nil))⟩
    · rw [enD_len]
      obtain ⟨ws, f2, r2⟩ := g.lst st
      exact ⟨ws, SqL.of f2, by rw [← r2.length]; exact Nat.le_refl _⟩
  · exact h1.elim
end
end Dl

set_option Elab.async false
set_option linter.all false
set_option maxRecDepth 100000
set_option maxHeartbeats 4000000
/-! The data layer: calls, defs, exceptions. -/
namespace Dl
open PySem PySem.Spec PyProof.Rows L2

/-! ### exceptions: the class, its fields, the slots, the heap -/
abbrev XD := Addr → List (Str × D) → GH → Prop
abbrev XDW := Addr → List (Str × D) → DSt → GH → Prop
def XRel (K : PySem.W.Frag) (H : Hp) (fs : List (Str × D)) (od : Option Addr) : Prop := (fs = [] ∧ od = none) ∨ ∃ d gs, od = some d ∧ H d = some (.xd gs) ∧ FRel K H fs gs
structure XOk (X : Cx) (B : Hp) (WD : XDW) : Prop where
  ex : ∃ W : WX, Takes X W ∧ ∀ C fs od δ G σ H, Rl X.K B δ G σ H → XRel X.K H fs od → WD C fs δ G → W (.ref C) od σ H
def CnX (K : PySem.W.Frag) (H : Hp) (ED : XD) (E : XK) : Prop := ∀ C fs od G' H', Tp H H' → RelG K G' H' → XRel K H' fs od → ED C fs G' → E (.ref C) od H'
def noX : XDW := fun _ _ _ _ => False
theorem xok_no {X : Cx} {B : Hp} : XOk X B noX := ⟨fun _ _ _ _ => False, fun _ _ x => by
  obtain ⟨_, _, _, _, _, _, _, _, _, _, _, _, _, _, _, _, z⟩ := x
  exact z.elim, fun _ _ _ _ _ _ _ _ _ h => h⟩
abbrev DSp := List D → GH → DK → XD → Prop
/-- a promise over data as a promise over values -/
def spV (K : PySem.W.Frag) (dsp : DSp) : Sp := fun vs H Q E => ∃ ds G QD ED, RelG K G H ∧ Rps K H ds vs ∧ dsp ds G QD ED ∧ Cn K H QD Q ∧ CnX K H ED E
/-- f(..) -/
def dCall (dsp : DSp) (WD : XDW) (t : TDA) : TDE := fun δ G Q => t δ G fun ds G1 => dsp ds G1 Q fun C fs G2 => WD C fs δ G2
theorem le_call {K : PySem.W.Frag} {B : Hp} {ta : TA} {t : TDA} {W : WX} {WD : XDW} {dsp : DSp} (l : LA K B ta t) (hW : ∀ C fs od δ G σ H, Rl K B δ G σ H → XRel K H fs od → WD C fs δ G → W (.ref C) od σ H) : LE K B (tCallS (spV K dsp) (WE W) ta) (dCall dsp WD t) := fun σ H δ G Q Q' R h k =>
  l σ H δ G _ _ R h fun vs H1 ds G1 t1 g1 r1 h1 => ⟨ds, G1, Q, _, g1, r1, h1, k.mono t1, fun C fs od G' H' t2 g2 x w => hW C fs od δ G' σ H' ((R.next t1 g1).next t2 g2) x w⟩
section
variable {X : Cx} {B : Hp} {k : Nat} {f C : Addr} {fd : FuncData} {ps : List Str} {dsp : DSp} {x m : Str} {p pos apos : Pos} {e o : Expr} {es : List Expr} {te : TDE} {t : TDA} {WD : XDW}
theorem de_call (F : FnOk X.prog X.w X.K X.mg X.base (L2.CX X.prog X.w) k f fd ps (spV X.K dsp)) (hr : Room k X.A) (hg : Gl X x) (hm : X.mg x = some (.ref f)) (hk : PySem.W.keepIn X.K (.ref f) = true) (hb : Binds X.K fd ps []) (hx : XOk X B WD)
    (ha : DA X B (e :: es) t) (hdb : (x == ("__debug__" : Str)) = false := by decide) (he : starEach (e :: es) X.env = (false, eval e X.env) :: starEach es X.env := by rfl) (hpl : (backTo pos (starEach es X.env)).any (·.1) = false := by rfl) :
    DE X B (.Call (.Name x p) (e :: es) [] pos) (dCall dsp WD t) := by
  obtain ⟨ta, p1, l1⟩ := ha
  obtain ⟨W, tk, hW⟩ := hx.ex
  exact ⟨_, pe_callS F hr hg hm hk hb (fun σ => passAt tk σ) p1 hdb he hpl, le_call l1 hW⟩
theorem pe_callS0 {CX : CXT} {sp : Sp} {E : L2.St → XK} (F : FnOk X.prog X.w X.K X.mg X.base CX k f fd ps sp) (hr : Room k X.A) (hg : Gl X x) (hm : X.mg x = some (.ref f)) (hk : PySem.W.keepIn X.K (.ref f) = true) (hb : Binds X.K fd ps []) (hx : ∀ σ, PassesAt CX X σ (E σ))
    (hdb : (x == ("__debug__" : Str)) = false := by decide) : PE X (.Call (.Name x p) [] [] pos) (tCallS sp E tNil) := by
  refine ⟨fun pins s σ H Q I h => ?_⟩
  refine wpAny_Call_Name_kw (ld_glob I hg hm ?_ hdb)
  exact PySem.W.callWith_K0 I.kIn hk (run_fnS (us := []) F hr hb (hx σ) I .nil h)
theorem la_nil {K : PySem.W.Frag} : LA K B tNil dNil := fun σ H δ G Q Q' R h k => k _ H _ G (Tp.refl H) R.g .nil h
theorem de_call0 (F : FnOk X.prog X.w X.K X.mg X.base (L2.CX X.prog X.w) k f fd ps (spV X.K dsp)) (hr : Room k X.A) (hg : Gl X x) (hm : X.mg x = some (.ref f)) (hk : PySem.W.keepIn X.K (.ref f) = true) (hb : Binds X.K fd ps []) (hx : XOk X B WD)
    (hdb : (x == ("__debug__" : Str)) = false := by decide) : DE X B (.Call (.Name x p) [] [] pos) (dCall dsp WD dNil) := by
  obtain ⟨W, tk, hW⟩ := hx.ex
  exact ⟨_, pe_callS0 F hr hg hm hk hb (fun σ => passAt tk σ) hdb, le_call la_nil hW⟩
/-! methods -/
def tMethW (C : Addr) (m : Str) (sp : Sp) (E : L2.St → XK) (ta : TE) (t : TA) : TE := fun σ H Q => ta σ H fun x H1 => ∃ a dx fs, x = .ref a ∧ H1 a = some (.ins C dx fs) ∧ fs.lookup m = none ∧ t σ H1 fun vs H2 => sp (x :: vs) H2 Q (E σ)
theorem pe_methW {CX : CXT} {sp : Sp} {E : L2.St → XK} {ta : TE} {t : TA} {pl : Sem Bool} (he : PE X o ta) (c : Cls X.K C) (hm : Meth X.K C m f) (F : FnOk X.prog X.w X.K X.mg X.base CX k f fd ps sp) (hr : Room k X.A) (hb : Binds X.K fd ps []) (hx : ∀ σ, PassesAt CX X σ (E σ)) (ha : PA X (e :: es) t)
    (hst : starEach (e :: es) X.env = (false, eval e X.env) :: starEach es X.env := by rfl) (hpl : (backTo pos (starEach es X.env)).any (·.1) = false := by rfl)
    (ht : eval (.Call (.Attribute o m apos) (e :: es) [] pos) X.env = (do
      let ov ← eval o X.env
      standAt apos.atName
      let (f, first) ← holding [ov] (getMethod ov m pl)
      callWith pos f first (backTo pos (starEach (e :: es) X.env)) (backToKw pos (keywordEach [] X.env))) := by rfl) :
    PE X (.Call (.Attribute o m apos) (e :: es) [] pos) (tMethW C m sp E ta t) := by
  refine ⟨fun pins s σ H Q I h => ?_⟩
  refine PySem.W.methodCall_KW (pl := pl) (thn (he.run pins s σ H _ I h) fun u s1 ⟨x, H1, I1, rx, a, dx, fs, ex, ea, l, q⟩ => ?_) ht
  subst ex
  obtain rfl : u = Value.ref a := rx
  refine getmeth_ok I1 ea c hm l ?_
  refine PySem.W.callWith_K (first := [.ref a]) (h₀ := X.base) I.ok.mod.kin hm.kp (thn (ha.run pos pins s1 σ H1 _ I1 q) fun us s2 ⟨vs, H2, I2, r, q2⟩ => ⟨I2.kIn, ?_⟩) hst hpl
  exact run_fnS (us := .ref a :: us) (vs := .ref a :: vs) F hr hb (hx σ) I2 (.cons rfl r) q2
theorem pe_methW0 {CX : CXT} {sp : Sp} {E : L2.St → XK} {ta : TE} {pl : Sem Bool} (he : PE X o ta) (c : Cls X.K C) (hm : Meth X.K C m f) (F : FnOk X.prog X.w X.K X.mg X.base CX k f fd ps sp) (hr : Room k X.A) (hb : Binds X.K fd ps []) (hx : ∀ σ, PassesAt CX X σ (E σ))
    (ht : eval (.Call (.Attribute o m apos) [] [] pos) X.env = (do
      let ov ← eval o X.env
      standAt apos.atName
      let (f, first) ← holding [ov] (getMethod ov m pl)
      callWith pos f first (backTo pos (starEach [] X.env)) (backToKw pos (keywordEach [] X.env))) := by rfl) :
    PE X (.Call (.Attribute o m apos) [] [] pos) (tMethW C m sp E ta tNil) := by
  refine ⟨fun pins s σ H Q I h => ?_⟩
  refine PySem.W.methodCall_KW (pl := pl) (thn (he.run pins s σ H _ I h) fun u s1 ⟨x, H1, I1, rx, a, dx, fs, ex, ea, l, q⟩ => ?_) ht
  subst ex
  obtain rfl : u = Value.ref a := rx
  refine getmeth_ok I1 ea c hm l ?_
  exact PySem.W.callWith_K0 (first := [.ref a]) I1.kIn hm.kp (run_fnS (us := [.ref a]) (vs := [.ref a]) F hr hb (hx σ) I1 (.cons rfl .nil) q)
/-- at a stands an instance of C, that has no attribute m of its own -/
def IsIns (K : PySem.W.Frag) (C : Addr) (m : Str) (G : GH) (a : Addr) : Prop := ∀ H, RelG K G H → ∃ dx fs, H a = some (.ins C dx fs) ∧ fs.lookup m = none
theorem IsIns.of {K : PySem.W.Frag} {C a dx : Addr} {m : Str} {G : GH} {fs : List (Str × D)} (h : G a = some (.ins C dx fs)) (hl : lookS m fs = none) : IsIns K C m G a := fun H g => by
  obtain ⟨gs, e, r⟩ := g.ins h
  exact ⟨dx, gs, e, r.lookN hl⟩
def dMeth (K : PySem.W.Frag) (C : Addr) (m : Str) (dsp : DSp) (WD : XDW) (to : TDE) (t : TDA) : TDE := fun δ G Q => to δ G fun x G1 => match x with
  | .at (.ref a) => IsIns K C m G1 a ∧ t δ G1 fun ds G2 => dsp (dR a :: ds) G2 Q fun C fs G3 => WD C fs δ G3
  | _ => False
theorem le_meth {K : PySem.W.Frag} {te' : TE} {ta : TA} {W : WX} (l0 : LE K B te' te) (l : LA K B ta t) (hW : ∀ C fs od δ G σ H, Rl K B δ G σ H → XRel K H fs od → WD C fs δ G → W (.ref C) od σ H) : LE K B (tMethW C m (spV K dsp) (WE W) te' ta) (dMeth K C m dsp WD te t) := fun σ H δ G Q Q' R h k =>
  l0 σ H δ G _ _ R h fun x H1 d G1 t1 g1 r1 h1 => by
    split at h1
    · rename_i a
      obtain ⟨hi, h1⟩ := h1
      obtain ⟨dx, fs, e1, e2⟩ := hi H1 g1
      have ex := r1.at_
      subst ex
      refine ⟨a, dx, fs, rfl, e1, e2, l σ H1 δ G1 _ _ (R.next t1 g1) h1 fun vs H2 ds G2 t2 g2 r2 h2 => ?_⟩
      exact ⟨dR a :: ds, G2, Q, _, g2, .cons (.at _) r2, h2, (k.mono t1).mono t2, fun C fs od G' H' t3 g3 x w => hW C fs od δ G' σ H' (((R.next t1 g1).next t2 g2).next t3 g3) x w⟩
    · exact h1.elim
theorem de_meth {pl : Sem Bool} (he : DE X B o te) (c : Cls X.K C) (hm : Meth X.K C m f) (F : FnOk X.prog X.w X.K X.mg X.base (L2.CX X.prog X.w) k f fd ps (spV X.K dsp)) (hr : Room k X.A) (hb : Binds X.K fd ps []) (hx : XOk X B WD) (ha : DA X B (e :: es) t)
    (hst : starEach (e :: es) X.env = (false, eval e X.env) :: starEach es X.env := by rfl) (hpl : (backTo pos (starEach es X.env)).any (·.1) = false := by rfl)
    (ht : eval (.Call (.Attribute o m apos) (e :: es) [] pos) X.env = (do
      let ov ← eval o X.env
      standAt apos.atName
      let (f, first) ← holding [ov] (getMethod ov m pl)
      callWith pos f first (backTo pos (starEach (e :: es) X.env)) (backToKw pos (keywordEach [] X.env))) := by rfl) :
    DE X B (.Call (.Attribute o m apos) (e :: es) [] pos) (dMeth X.K C m dsp WD te t) := by
  obtain ⟨t1, p1, l1⟩ := he
  obtain ⟨t2, p2, l2⟩ := ha
  obtain ⟨W, tk, hW⟩ := hx.ex
  exact ⟨_, pe_methW (pl := pl) p1 c hm F hr hb (fun σ => passAt tk σ) p2 hst hpl ht, le_meth l1 l2 hW⟩
theorem de_meth0 {pl : Sem Bool} (he : DE X B o te) (c : Cls X.K C) (hm : Meth X.K C m f) (F : FnOk X.prog X.w X.K X.mg X.base (L2.CX X.prog X.w) k f fd ps (spV X.K dsp)) (hr : Room k X.A) (hb : Binds X.K fd ps []) (hx : XOk X B WD)
    (ht : eval (.Call (.Attribute o m apos) [] [] pos) X.env = (do
      let ov ← eval o X.env
      standAt apos.atName
      let (f, first) ← holding [ov] (getMethod ov m pl)
      callWith pos f first (backTo pos (starEach [] X.env)) (backToKw pos (keywordEach [] X.env))) := by rfl) :
    DE X B (.Call (.Attribute o m apos) [] [] pos) (dMeth X.K C m dsp WD te dNil) := by
  obtain ⟨t1, p1, l1⟩ := he
  obtain ⟨W, tk, hW⟩ := hx.ex
  exact ⟨_, pe_methW0 (pl := pl) p1 c hm F hr hb (fun σ => passAt tk σ) ht, le_meth l1 la_nil hW⟩
/-! making an instance -/
theorem run_makeS {CX : CXT} {sp : Sp} {E : L2.St → XK} {pins : List (Addr × Obj)} {σ : L2.St} {H : Hp} {s : Shared} {Q : VK} {us : List Value} {vs : List V} (M : Mk X.K C f) (F : FnOk X.prog X.w X.K X.mg X.base CX k f fd ps sp) (hr : Room (k + 1) X.A) (hb : Binds X.K fd ps [])
    (hx : PassesAt CX X σ (E σ)) (I : Inv X pins σ H s) (r : Vals vs us)
    (h : ∀ x dx, H x = none → H dx = none → dx ≠ x → sp (.ref x :: vs) (upd (upd H dx (.own x)) x (.ins C dx [])) (fun v H2 => v = .non ∧ Q (.ref x) H2) (E σ)) :
    wpAny (model X.prog X.w) X.A (call (.ref C) us) (EP X pins σ Q) X.xe s := by
  have hq := h (s.heap.objs.size + 1) s.heap.objs.size (I.hok.fresh (Nat.le_succ _)) (I.hok.fresh (Nat.le_refl _)) (Nat.ne_of_lt (Nat.lt_succ_self _))
  have I2 := Inv.made (C := C) I
  have r2 : Vals (V.ref (s.heap.objs.size + 1) :: vs) (Value.ref (s.heap.objs.size + 1) :: us) := .cons rfl r
  have hl : (Value.ref (s.heap.objs.size + 1) :: us).length = ps.length := by
    have e := r2.length
    rw [F.len _ _ _ _ hq] at e
    exact e.symm
  have b := hb _ (Value.ref (s.heap.objs.size + 1) :: us) I2.kIn (by rw [List.append_nil]; exact hl)
  rw [List.append_nil] at b
  refine wpAny_call (make_map (f := f) I.kIn M.makes M.init (beq_iff_eq.mp M.fn) (codeAny_mono (F.run _ X.stack _ _ ⟨Value.ref (s.heap.objs.size + 1) :: us, []⟩ (Value.ref (s.heap.objs.size + 1) :: us) _ _ (E σ) (hr.make C us [])
    (I2.env0.make C us []) b r2 hq) fun r s' hq' => ?_))
  cases r with
  | error e => exact hx pins _ _ e s' I2 hq'
  | ok fl =>
    cases fl with
    | ret u =>
      obtain ⟨v, H', I3, rv, ev, q3⟩ := I2.after hq'
      subst ev
      exact ⟨rv, ⟨V.ref (s.heap.objs.size + 1), H', I3, rfl, q3⟩⟩
    | next => exact False.elim hq'
    | brk => exact False.elim hq'
    | cont => exact False.elim hq'
def tMakeS (C : Addr) (sp : Sp) (E : L2.St → XK) (t : TA) : TE := fun σ H Q => t σ H fun vs H1 => ∀ x dx, H1 x = none → H1 dx = none → dx ≠ x →
  sp (.ref x :: vs) (upd (upd H1 dx (.own x)) x (.ins C dx [])) (fun v H2 => v = .non ∧ Q (.ref x) H2) (E σ)
theorem pe_makeS {CX : CXT} {sp : Sp} {E : L2.St → XK} {t : TA} (M : Mk X.K C f) (F : FnOk X.prog X.w X.K X.mg X.base CX k f fd ps sp) (hr : Room (k + 1) X.A) (hg : Gl X x) (hm : X.mg x = some (.ref C)) (hb : Binds X.K fd ps []) (hx : ∀ σ, PassesAt CX X σ (E σ))
    (ha : PA X (e :: es) t) (hdb : (x == ("__debug__" : Str)) = false := by decide) (he : starEach (e :: es) X.env = (false, eval e X.env) :: starEach es X.env := by rfl) (hpl : (backTo pos (starEach es X.env)).any (·.1) = false := by rfl) :
    PE X (.Call (.Name x p) (e :: es) [] pos) (tMakeS C sp E t) := by
  refine ⟨fun pins s σ H Q I h => ?_⟩
  refine wpAny_Call_Name_kw (ld_glob I hg hm ?_ hdb)
  refine PySem.W.callWith_K (h₀ := X.base) I.ok.mod.kin M.kp (thn (ha.run pos pins s σ H _ I h) fun us s1 ⟨vs, H1, I1, r, q⟩ => ⟨I1.kIn, ?_⟩) he hpl
  exact run_makeS M F hr hb (hx σ) I1 r q
def dMake (C : Addr) (dsp : DSp) (WD : XDW) (t : TDA) : TDE := fun δ G Q => t δ G fun ds G1 => ∀ x dx, G1 x = none → dsp (dR x :: ds) (gu G1 x (.ins C dx [])) (fun d G2 => isN d = true ∧ Q (dR x) G2) fun C fs G3 => WD C fs δ G3
theorem de_make (M : Mk X.K C f) (F : FnOk X.prog X.w X.K X.mg X.base (L2.CX X.prog X.w) k f fd ps (spV X.K dsp)) (hr : Room (k + 1) X.A) (hg : Gl X x) (hm : X.mg x = some (.ref C)) (hb : Binds X.K fd ps []) (hx : XOk X B WD)
    (ha : DA X B (e :: es) t) (hdb : (x == ("__debug__" : Str)) = false := by decide) (he : starEach (e :: es) X.env = (false, eval e X.env) :: starEach es X.env := by rfl) (hpl : (backTo pos (starEach es X.env)).any (·.1) = false := by rfl) :
    DE X B (.Call (.Name x p) (e :: es) [] pos) (dMake C dsp WD t) := by
  obtain ⟨t1, p1, l1⟩ := ha
  obtain ⟨W, tk, hW⟩ := hx.ex
  refine ⟨_, pe_makeS M F hr hg hm hb (fun σ => passAt tk σ) p1 hdb he hpl, fun σ H δ G Q Q' R h k => l1 σ H δ G _ _ R h fun vs H1 ds G1 t1 g1 r1 h1 x dx hx hdx hne => ?_⟩
  have tp1 : Tp H1 (upd H1 dx (.own x)) := Tp.new hdx
  have hx2 : upd H1 dx (.own x) x = none := by rw [upd_ne (Ne.symm hne)]; exact hx
  have tp2 : Tp (upd H1 dx (.own x)) (upd (upd H1 dx (.own x)) x (.ins C dx [])) := Tp.new hx2
  have g2 : RelG X.K G1 (upd H1 dx (.own x)) := (g1.new (m := .raw (.own x)) hdx ⟨rfl, rfl⟩).le (Le.new (g1.fresh hdx))
  have g3 := g2.new (m := .ins C dx []) hx2 ⟨rfl, [], rfl, .nil⟩
  have tp := tp1.trans tp2
  refine ⟨dR x :: ds, _, _, _, g3, .cons (.at _) (r1.mono tp), h1 x dx (g1.fresh hx), fun v H' d G' t3 g' rd hq => ?_, fun C fs od G' H' t3 g' xr w => hW C fs od δ G' σ H' (((R.next t1 g1).next tp g3).next t3 g') xr w⟩
  obtain ⟨hd, hq⟩ := hq
  refine ⟨?_, k _ H' (dR x) G' ((t1.trans tp).trans t3) g' (.at _) hq⟩
  have := isN_rp rd
  rw [hd] at this
  exact of_decide_eq_true this
/-! built-ins -/
abbrev RDC := List D → GH → DK → Prop
def LC (K : PySem.W.Frag) (r : List V → Hp → VK → Prop) (r' : RDC) : Prop := ∀ H G ds vs Q Q', RelG K G H → Rps K H ds vs → r' ds G Q → Cn K H Q Q' → r vs H Q'
def dBi (r : RDC) (t : TDA) : TDE := fun δ G Q => t δ G fun ds G1 => r ds G1 Q
theorem le_bi {K : PySem.W.Frag} {ta : TA} {r : List V → Hp → VK → Prop} {r' : RDC} (l : LC K r r') (la : LA K B ta t) : LE K B (tCB r ta) (dBi r' t) := fun σ H δ G Q Q' R h k =>
  la σ H δ G _ _ R h fun vs H1 ds G1 t1 g1 r1 h1 => l H1 G1 ds vs Q Q' g1 r1 h1 (k.mono t1)
theorem de_bi {id : String} {r : List V → Hp → VK → Prop} {r' : RDC} (hc : CallR X (.builtin id) r) (l : LC X.K r r') (hg : Gl X x) (hm : X.mg x = none) (hv : bootBuiltins x = some (.builtin id)) (ha : DA X B (e :: es) t) (hn : x ≠ "__name__" := by decide) (hdb : (x == ("__debug__" : Str)) = false := by decide)
    (he : starEach (e :: es) X.env = (false, eval e X.env) :: starEach es X.env := by rfl) (hpl : (backTo pos (starEach es X.env)).any (·.1) = false := by rfl) : DE X B (.Call (.Name x p) (e :: es) [] pos) (dBi r' t) := by
  obtain ⟨t1, p1, l1⟩ := ha
  exact ⟨_, pe_callB hc hg hm hv p1 hn hdb he hpl, le_bi l l1⟩
theorem de_ty {T : String} {r : List V → Hp → VK → Prop} {r' : RDC} (hc : CallR X (.type T) r) (l : LC X.K r r') (hg : Gl X x) (hm : X.mg x = none) (hv : bootBuiltins x = some (.type T)) (ha : DA X B (e :: es) t) (hn : x ≠ "__name__" := by decide) (hdb : (x == ("__debug__" : Str)) = false := by decide)
    (he : starEach (e :: es) X.env = (false, eval e X.env) :: starEach es X.env := by rfl) (hpl : (backTo pos (starEach es X.env)).any (·.1) = false := by rfl) : DE X B (.Call (.Name x p) (e :: es) [] pos) (dBi r' t) := by
  obtain ⟨t1, p1, l1⟩ := ha
  exact ⟨_, pe_callTy hc hg hm hv p1 hn hdb he hpl, le_bi l l1⟩
/-! methods of built-ins -/
abbrev RDM := D → List D → GH → DK → Prop
def LM (K : PySem.W.Frag) (r : V → List V → Hp → VK → Prop) (r' : RDM) : Prop := ∀ H G d ds v vs Q Q', RelG K G H → Rp K H d v → Rps K H ds vs → r' d ds G Q → Cn K H Q Q' → r v vs H Q'
/-- d is of the type T -/
def tyD (T : String) (d : D) (G : GH) : Prop := match d with
  | .at (.str _) => T = "str"
  | .at (.ref p) => (T = "list" ∧ ∃ xs, G p = some (.lst xs)) ∨ (T = "dict" ∧ ∃ kvs, G p = some (.dct kvs))
  | _ => False
theorem tyD_v {K : PySem.W.Frag} {T : String} {d : D} {v : V} {G : GH} {H : Hp} (g : RelG K G H) (r : Rp K H d v) (h : tyD T d G) : tyV K T v H := by
  unfold tyD at h
  split at h
  · rw [r.at_]; exact h
  · rw [r.at_]
    rcases h with ⟨e, xs, h⟩ | ⟨e, kvs, h⟩
    · obtain ⟨vs, f, _⟩ := g.lst h
      exact .inl ⟨e, vs, SqL.of f⟩
    · obtain ⟨vs, f, _⟩ := g.dct h
      exact .inr (.inr (.inl ⟨e, .inl ⟨vs, f⟩⟩))
  · exact h.elim
def dBm0 (T : String) (r : RDM) (to : TDE) : TDE := fun δ G Q => to δ G fun x G1 => tyD T x G1 ∧ r x [] G1 Q
def dBm (T : String) (r : RDM) (to : TDE) (t : TDA) : TDE := fun δ G Q => to δ G fun x G1 => tyD T x G1 ∧ t δ G1 fun ds G2 => r x ds G2 Q
theorem de_bm0 {name : Str} {T id : String} {cpos : Pos} {r : V → List V → Hp → VK → Prop} {r' : RDM} (pa : PlainAttrs T) (slot : Slot T name id) (hty : typeOf (.builtin id) = pure (.type "method_descriptor")) (hm : MtR X id r) (l : LM X.K r r') (ho : DE X B o te)
    (hbase : attributeBase o name X.env (eval o X.env) = eval o X.env := by rfl) (hline : (apos.endLine == cpos.line) = true := by rfl) : DE X B (.Call (.Attribute o name apos) [] [] cpos) (dBm0 T r' te) := by
  obtain ⟨t1, p1, l1⟩ := ho
  exact ⟨_, pe_bm0 pa slot hty hm p1 hbase hline, fun σ H δ G Q Q' R h k => l1 σ H δ G _ _ R h fun v H1 d G1 t1 g1 r1 h1 => ⟨tyD_v g1 r1 h1.1, l H1 G1 d [] v [] Q Q' g1 r1 .nil h1.2 (k.mono t1)⟩⟩
theorem de_bm {name : Str} {T id : String} {cpos : Pos} {r : V → List V → Hp → VK → Prop} {r' : RDM} (pa : PlainAttrs T) (slot : Slot T name id) (hty : typeOf (.builtin id) = pure (.type "method_descriptor")) (hm : MtR X id r) (l : LM X.K r r') (ho : DE X B o te) (ha : DA X B (e :: es) t)
    (hbase : attributeBase o name X.env (eval o X.env) = eval o X.env := by rfl)
    (hfew : ((backTo cpos (starEach (e :: es) X.env)).all (fun x => !x.1) && (backToKw cpos (keywordEach [] X.env)).all (fun x => x.1.isSome)
      && decide ((e :: es).length + ([] : List Keyword).length + (if ([] : List Keyword).isEmpty then 0 else 1) < 30)) = true := by rfl)
    (hline : (apos.endLine == cpos.line) = true := by rfl) (hs : starEach (e :: es) X.env = (false, eval e X.env) :: starEach es X.env := by rfl) (hplain : (backTo cpos (starEach es X.env)).any (·.1) = false := by rfl) :
    DE X B (.Call (.Attribute o name apos) (e :: es) [] cpos) (dBm T r' te t) := by
  obtain ⟨t1, p1, l1⟩ := ho
  obtain ⟨t2, p2, l2⟩ := ha
  refine ⟨_, pe_bm pa slot hty hm p1 p2 hbase hfew hline hs hplain, fun σ H δ G Q Q' R h k => l1 σ H δ G _ _ R h fun v H1 d G1 t1 g1 r1 h1 => ⟨tyD_v g1 r1 h1.1, l2 σ H1 δ G1 _ _ (R.next t1 g1) h1.2 fun vs H2 ds G2 t2 g2 r2 h2 => ?_⟩⟩
  exact l H2 G2 d ds v vs Q Q' g2 (r1.mono t2) r2 h2 ((k.mono t1).mono t2)
/-! raise, try -/
def dRaise (WD : XDW) (C : Addr) (fs : List (Str × D)) : TDS := fun _ δ G => WD C fs δ G
theorem ds_raise {K0 : List Value} {ms : Str} {j : Nat} {p2 : Pos} {bmB : List Value} {B0 newId initId : String} (hc : X.calm = true) (hx : XOk X B WD) (F : ExcBaseFacts B0 newId initId bmB) (q : PySem.W.excIn X.K C bmB newId = true) (gC : X.mg x = some (.ref C)) (kC : PySem.W.keepIn X.K (.ref C) = true)
    (r : Raises X (.ref C)) (hg : Gl X x) (hdb : (x == ("__debug__" : Str)) = false := by decide) : DS X B (.Raise (some (.Call (.Name x p) [.Constant (.str ms) j p2] [] pos)) none apos) (dRaise WD C []) := by
  obtain ⟨W, tk, hW⟩ := hx.ex
  exact ⟨_, ps_raise hc tk (pmk_own F q gC kC r hg hdb), fun σ H δ G E D' R h k => hW C [] none δ G σ H R (.inl ⟨rfl, rfl⟩) h⟩
end

/-! ### a def keeps its promise -/
def startD (N : List Str) (ds : List D) : DSt := ds.map some ++ List.replicate (N.length - ds.length) none
theorem rels_start {K : PySem.W.Frag} {H : Hp} {N : List Str} {ds : List D} {vs : List V} (r : Rps K H ds vs) : RelS K H (startD N ds) (L2.start N vs) := by
  unfold startD L2.start
  rw [r.length]
  have tail : ∀ n : Nat, RelS K H (List.replicate n none) (List.replicate n none) := fun n => by
    induction n with
    | zero => exact .nil
    | succ n ih => rw [List.replicate_succ, List.replicate_succ]; exact .cons (fun d e => by cases e) ih
  generalize List.replicate (N.length - vs.length) (none : Option D) = u, List.replicate (N.length - vs.length) (none : Option V) = u', tail (N.length - vs.length) = tl
  have go : ∀ {ds : List D} {vs : List V} {u : DSt} {u' : L2.St}, RelS K H u u' → Rps K H ds vs → RelS K H (ds.map some ++ u) (vs.map some ++ u') := by
    intro ds vs u u' tl r
    induction ds generalizing vs with
    | nil => cases r; exact tl
    | cons d ds ih =>
      cases r with
      | cons h t => exact .cons (fun e z => by cases z; exact ⟨_, rfl, h⟩) (ih t)
  exact go tl r
/-- what the ends of a def's body want -/
def retD (K : PySem.W.Frag) (QD : DK) : DEnds := { nx := fun _ G' => ∃ G2, Ent K G' G2 ∧ QD dN G2, rt := fun d G' => ∃ G2, Ent K G' G2 ∧ QD d G2 }
def excD (K : PySem.W.Frag) (ED : XD) : XDW := fun C fs _ G => ∃ G2, Ent K G G2 ∧ ED C fs G2
section
variable {P : Program} {w : World} {K : PySem.W.Frag} {mg : Str → Option Value} {base : Heap} {x qual : Str} {params : Arguments} {body : List Stmt} {scope : Scope} {dvs : List V} {kws : List (Str × V)} {f : Addr} {fd : FuncData}
theorem dfn {N ps : List Str} {k : Nat} {dsp : DSp} (F : FunD K x qual params body scope dvs kws f fd) (S : FnScope N ps scope) (hl : ∀ ds G Q E, dsp ds G Q E → ds.length = ps.length)
    (hbody : ∀ (cdv : Value) (A : Around) (outer : List Env) (s : Shared) (H : Hp) (E : XK) (ds : List D) (G : GH) (QD : DK) (ED : XD), Room k (A.deeper (envOfC qual scope s.heap.objs.size f cdv)) → dsp ds G QD ED → RelG K G H →
      XOk (cxOf (L2.CX P w) P w K mg base N qual scope f cdv A outer s H E) H (excD K ED) →
      ∃ t, DSs (cxOf (L2.CX P w) P w K mg base N qual scope f cdv A outer s H E) H body t ∧ t (retD K QD) (startD N ds) G) : FnOk P w K mg base (L2.CX P w) (k + 1) f fd ps (spV K dsp) := by
  refine F.ok S (fun vs H Q E h => ?_) fun cdv A outer s H vs Q E hr h => ?_
  · obtain ⟨ds, G, QD, ED, _, r, h, _⟩ := h
    rw [← r.length]
    exact hl _ _ _ _ h
  · obtain ⟨ds, G, QD, ED, g, r, h, kq, kx⟩ := h
    have hx : XOk (cxOf (L2.CX P w) P w K mg base N qual scope f cdv A outer s H E) H (excD K ED) := by
      refine ⟨_, takes_of rfl rfl rfl rfl, fun C fs od δ G σ H' R xr ⟨G2, en, w⟩ => ?_⟩
      exact kx C fs od G2 H' R.b (en _ R.g) xr w
    obtain ⟨t, ⟨ts, pss, l⟩, q⟩ := hbody cdv A outer s H E ds G QD ED hr h g hx
    refine ⟨ts, pss, l (L2.start N vs) H (startD N ds) G _ _ ⟨rels_start r, g, Tp.refl H⟩ q ⟨fun δ G' σ H' t' R' ⟨G2, en, q⟩ => ?_, fun v H' d G' t' g' r' ⟨G2, en, q⟩ => ?_, fun _ _ _ _ _ _ h => h.elim, fun _ _ _ _ _ _ h => h.elim⟩⟩
    · exact kq .non H' dN G2 t' (en _ R'.g) (.at _) q
    · exact kq v H' d G2 t' (en _ g') r' q
end
end Dl

set_option Elab.async false
set_option linter.all false
set_option maxRecDepth 100000
set_option maxHeartbeats 4000000
/-! The data layer: built-ins and their methods. -/
namespace Dl
open PySem PySem.Spec PyProof.Rows L2

def szMO : Option MO → Option Nat
  | some (.lst xs) => some xs.length
  | some (.dct kvs) => some kvs.length
  | _ => none
def dLen : RDC := fun ds G Q => match ds with
  | [.tup xs] => Q (dI (xs.length : Nat)) G
  | [.frl xs] => Q (dI (xs.length : Nat)) G
  | [.at (.str z)] => z.length ≤ zL ∧ Q (dI (z.length : Nat)) G
  | [.at (.ref p)] => ∃ n : Nat, szMO (G p) = some n ∧ Q (dI n) G
  | _ => False
def rLenA (K : PySem.W.Frag) : List V → Hp → VK → Prop := fun xs H Q => (∃ p ys, xs = [.ref p] ∧ (SqL K H p ys ∨ SqT K H p ys) ∧ Q (.int ys.length) H) ∨ (∃ z, xs = [.str z] ∧ z.length ≤ sizeLine ∧ Q (.int z.length) H) ∨ ∃ a kvs, xs = [V.ref a] ∧ H a = some (.dK kvs) ∧ Q (.int kvs.length) H
theorem CallR.or {X : Cx} {f : Value} {r s : List V → Hp → VK → Prop} (h : CallR X f r) (k : CallR X f s) : CallR X f (fun xs H Q => r xs H Q ∨ s xs H Q) := by
  intro pins st σ H xs us Q I rv q
  rcases q with q | q
  · exact h pins st σ H xs us Q I rv q
  · exact k pins st σ H xs us Q I rv q
theorem cr_len {X : Cx} : CallR X (.builtin "len") (rLenA X.K) := CallR.or call_len_seq (CallR.or call_len_str call_lenD)
section
variable {K : PySem.W.Frag} {X : Cx} {B : Hp}
theorem lc_len : LC K (rLenA K) dLen := fun H G ds vs Q Q' g r h k => by
  unfold dLen at h
  split at h
  · rename_i xs
    obtain ⟨v, rfl, r1⟩ := r.one
    obtain ⟨a, us, rfl, hs, r2⟩ := r1.tup_
    exact .inl ⟨a, us, rfl, .inr hs, by rw [← r2.length]; exact k _ H _ G (Tp.refl H) g (.at _) h⟩
  · rename_i xs
    obtain ⟨v, rfl, r1⟩ := r.one
    obtain ⟨a, us, rfl, hs, r2⟩ := r1.frl_
    exact .inl ⟨a, us, rfl, .inl hs.sql, by rw [← r2.length]; exact k _ H _ G (Tp.refl H) g (.at _) h⟩
  · rename_i z
    obtain ⟨v, rfl, r1⟩ := r.one
    exact .inr (.inl ⟨z, by rw [r1.at_], by rw [sizeLine_eq]; exact h.1, k _ H _ G (Tp.refl H) g (.at _) h.2⟩)
  · rename_i p
    obtain ⟨v, rfl, r1⟩ := r.one
    obtain ⟨n, e, h⟩ := h
    unfold szMO at e
    split at e
    · rename_i xs e0
      obtain ⟨us, e1, r2⟩ := g.lst e0
      cases e
      exact .inl ⟨p, us, by rw [r1.at_], .inl (SqL.of e1), by rw [← r2.length]; exact k _ H _ G (Tp.refl H) g (.at _) h⟩
    · rename_i kvs e0
      obtain ⟨ws, e1, r2⟩ := g.dct e0
      cases e
      exact .inr (.inr ⟨p, ws, by rw [r1.at_], e1, by rw [← KRel.length r2]; exact k _ H _ G (Tp.refl H) g (.at _) h⟩)
    · cases e
  · exact h.elim

/-! list, tuple, dict, int -/
def keyD : Key → D
  | .inl i => dI i
  | .inr s => dS s
theorem kV_keyD {H : Hp} (k : Key) : Rp K H (keyD k) (kV k) := by cases k <;> exact .at _
def itMO : Option MO → Option (List D)
  | some (.lst xs) => some xs
  | some (.dct kvs) => some (kvs.map fun kv => keyD kv.1)
  | _ => none
def dList : RDC := fun ds G Q => match ds with
  | [.tup xs] => ∀ p, G p = none → Q (dR p) (gu G p (.lst xs))
  | [.at (.ref a)] => ∃ xs, itMO (G a) = some xs ∧ ∀ p, G p = none → Q (dR p) (gu G p (.lst xs))
  | _ => False
def rListA (K : PySem.W.Frag) : List V → Hp → VK → Prop := fun xs H Q => (∃ p ys, xs = [.ref p] ∧ (SqL K H p ys ∨ SqT K H p ys) ∧ ∀ l, H l = none → Q (.ref l) (upd H l (.lst ys))) ∨
  (∃ (a : Addr) (kvs : List (Key × V)), xs = [.ref a] ∧ Rd H a (.dK kvs) ∧ ∀ p, H p = none → Q (.ref p) (upd H p (.lst (kvs.map fun kv => kV kv.1))))
theorem cr_list (hc : X.calm = true) : CallR X (.type "list") (rListA X.K) := CallR.or call_list_of (call_listD hc)
theorem keys_rps {H : Hp} : ∀ {kvs : List (Key × D)} {ws : List (Key × V)}, KRel K H kvs ws → Rps K H (kvs.map fun kv => keyD kv.1) (ws.map fun kv => kV kv.1)
  | _, _, .nil => .nil
  | (a, x) :: _, (b, y) :: _, .cons r t => by
    obtain ⟨e, _⟩ := r
    have e : a = b := e
    subst e
    exact .cons (kV_keyD _) (keys_rps t)
theorem lc_list : LC K (rListA K) dList := fun H G ds vs Q Q' g r h k => by
  unfold dList at h
  split at h
  · rename_i xs
    obtain ⟨v, rfl, r1⟩ := r.one
    obtain ⟨a, us, rfl, hs, r2⟩ := r1.tup_
    exact .inl ⟨a, us, rfl, .inr hs, fun l hl => new_lst g r2 hl h k⟩
  · rename_i a
    obtain ⟨v, rfl, r1⟩ := r.one
    obtain ⟨xs, e, h⟩ := h
    unfold itMO at e
    split at e
    · rename_i xs' e0
      obtain ⟨us, e1, r2⟩ := g.lst e0
      cases e
      exact .inl ⟨a, us, by rw [r1.at_], .inl (SqL.of e1), fun l hl => new_lst g r2 hl h k⟩
    · rename_i kvs e0
      obtain ⟨ws, e1, r2⟩ := g.dct e0
      cases e
      exact .inr ⟨a, ws, by rw [r1.at_], .inl e1, fun l hl => new_lst g (keys_rps r2) hl h k⟩
    · cases e
  · exact h.elim
def dTuple : RDC := fun ds G Q => match ds with
  | [.tup xs] => Q (.tup xs) G
  | [.at (.ref a)] => ∃ xs, G a = some (.lst xs) ∧ Q (.tup xs) G
  | _ => False
def rTupleA (K : PySem.W.Frag) : List V → Hp → VK → Prop := fun xs H Q => ∃ p ys, xs = [.ref p] ∧ ((SqL K H p ys ∧ ∀ l, H l = none → Q (.ref l) (upd H l (.tup ys))) ∨ (SqT K H p ys ∧ Q (.ref p) H))
theorem lc_tuple : LC K (rTupleA K) dTuple := fun H G ds vs Q Q' g r h k => by
  unfold dTuple at h
  split at h
  · rename_i xs
    obtain ⟨v, rfl, r1⟩ := r.one
    obtain ⟨a, us, rfl, hs, r2⟩ := r1.tup_
    exact ⟨a, us, rfl, .inr ⟨hs, k _ H _ G (Tp.refl H) g (.tup hs r2) h⟩⟩
  · rename_i a
    obtain ⟨v, rfl, r1⟩ := r.one
    obtain ⟨xs, e0, h⟩ := h
    obtain ⟨us, e1, r2⟩ := g.lst e0
    exact ⟨a, us, by rw [r1.at_], .inl ⟨SqL.of e1, fun l hl => new_tup g r2 hl h k⟩⟩
  · exact h.elim
def dInt : RDC := fun ds G Q => match ds with
  | [.at (.int i)] => Q (dI i) G
  | [.at (.bl b)] => Q (dI (if b then 1 else 0)) G
  | _ => False
def rIntA : List V → Hp → VK → Prop := fun xs H Q => (∃ i, xs = [.int i] ∧ Q (.int i) H) ∨ ∃ k, xs = [.bl k] ∧ Q (.int (if k then 1 else 0)) H
theorem lc_int : LC K rIntA dInt := fun H G ds vs Q Q' g r h k => by
  unfold dInt at h
  split at h
  · obtain ⟨v, rfl, r1⟩ := r.one
    exact .inl ⟨_, by rw [r1.at_], k _ H _ G (Tp.refl H) g (.at _) h⟩
  · obtain ⟨v, rfl, r1⟩ := r.one
    exact .inr ⟨_, by rw [r1.at_], k _ H _ G (Tp.refl H) g (.at _) h⟩
  · exact h.elim
def dDict : RDC := fun ds G Q => match ds with
  | [.at (.ref a)] => ∃ kvs, G a = some (.dct kvs) ∧ ∀ p, G p = none → Q (dR p) (gu G p (.dct kvs))
  | _ => False
def rDictA : List V → Hp → VK → Prop := fun xs H Q => ∃ (a : Addr) (kvs : List (Key × V)), xs = [.ref a] ∧ Rd H a (.dK kvs) ∧ ∀ p, H p = none → Q (.ref p) (upd H p (.dK kvs))
theorem lc_dict : LC K rDictA dDict := fun H G ds vs Q Q' g r h k => by
  unfold dDict at h
  split at h
  · rename_i a
    obtain ⟨v, rfl, r1⟩ := r.one
    obtain ⟨kvs, e0, h⟩ := h
    obtain ⟨ws, e1, r2⟩ := g.dct e0
    exact ⟨a, ws, by rw [r1.at_], .inl e1, fun p hp => new_dct g r2 hp h k⟩
  · exact h.elim

/-! all, any -/
def blsD : List D → Option (List Bool)
  | [] => some []
  | .at (.bl b) :: r => (blsD r).map (b :: ·)
  | _ :: _ => none
theorem blsD_rp {H : Hp} : ∀ {ds : List D} {vs : List V} {bs : List Bool}, blsD ds = some bs → Rps K H ds vs → vs = bs.map V.bl
  | [], _, _, e, r => by cases e; cases r; rfl
  | d :: ds, _, bs, e, r => by
    cases r with
    | cons r1 r2 =>
      unfold blsD at e
      split at e
      · rename_i h; cases h
      · rename_i b r' h
        cases h
        cases q : blsD ds with
        | none => rw [q] at e; cases e
        | some cs =>
          rw [q] at e
          cases e
          rw [r1.at_, blsD_rp q r2]; rfl
      · cases e
def dAllF (f : List Bool → Bool) : RDC := fun ds G Q => match ds with
  | [.at (.ref a)] => ∃ xs bs, G a = some (.lst xs) ∧ blsD xs = some bs ∧ Q (dB (f bs)) G
  | _ => False
theorem lc_all : LC K (rAll K) (dAllF fun bs => bs.all id) := fun H G ds vs Q Q' g r h k => by
  unfold dAllF at h
  split at h
  · rename_i a
    obtain ⟨v, rfl, r1⟩ := r.one
    obtain ⟨xs, bs, e0, e, h⟩ := h
    obtain ⟨us, e1, r2⟩ := g.lst e0
    exact ⟨a, bs, by rw [r1.at_], by rw [← blsD_rp e r2]; exact SqL.of e1, k _ H _ G (Tp.refl H) g (.at _) h⟩
  · exact h.elim
theorem lc_any : LC K (rAny K) (dAllF fun bs => bs.any id) := fun H G ds vs Q Q' g r h k => by
  unfold dAllF at h
  split at h
  · rename_i a
    obtain ⟨v, rfl, r1⟩ := r.one
    obtain ⟨xs, bs, e0, e, h⟩ := h
    obtain ⟨us, e1, r2⟩ := g.lst e0
    exact ⟨a, bs, by rw [r1.at_], by rw [← blsD_rp e r2]; exact SqL.of e1, k _ H _ G (Tp.refl H) g (.at _) h⟩
  · exact h.elim
end

/-! sorted(d), min, max of two -/
section
variable {K : PySem.W.Frag} {X : Cx} {B : Hp}
def rSortD : List V → Hp → VK → Prop := fun xs H Q => (∃ (a : Addr) (kvs : List (Key × V)) (ks : List Int), xs = [.ref a] ∧ Rd H a (.dK kvs) ∧ kvs.map (·.1) = ks.map Sum.inl ∧ ks.length < 64 ∧
    ∀ (ys : List Int) (p : Addr), ys.Perm ks → ys.Pairwise (· ≤ ·) → H p = none → Q (.ref p) (upd H p (.lst (ys.map V.int)))) ∨
  ∃ (a : Addr) (kvs : List (Key × V)) (ks : List Str), xs = [.ref a] ∧ Rd H a (.dK kvs) ∧ kvs.map (·.1) = ks.map Sum.inr ∧ ks.length < 64 ∧
    ∀ ys p, ys.Perm ks → sortedS ys = true → H p = none → Q (.ref p) (upd H p (.lst (ys.map V.str)))
theorem cr_sortD (hc : X.calm = true) : CallR X (.builtin "sorted") rSortD := CallR.or (call_sortedDI hc) (call_sortedD hc)
theorem KRel.keys {H : Hp} : ∀ {kvs : List (Key × D)} {ws : List (Key × V)}, KRel K H kvs ws → kvs.map (·.1) = ws.map (·.1)
  | _, _, .nil => rfl
  | (a, x) :: _, (b, y) :: _, .cons r t => by
    obtain ⟨e, _⟩ := r
    have e : a = b := e
    subst e
    rw [List.map_cons, List.map_cons, KRel.keys t]
def dSortDI : RDC := fun ds G Q => match ds with
  | [.at (.ref a)] => ∃ kvs ks, G a = some (.dct kvs) ∧ kvs.map (·.1) = ks.map Sum.inl ∧ ks.length < 64 ∧ ∀ (ys : List Int) p, ys.Perm ks → ys.Pairwise (· ≤ ·) → G p = none → Q (dR p) (gu G p (.lst (ys.map dI)))
  | _ => False
def dSortDS : RDC := fun ds G Q => match ds with
  | [.at (.ref a)] => ∃ kvs ks, G a = some (.dct kvs) ∧ kvs.map (·.1) = ks.map Sum.inr ∧ ks.length < 64 ∧ ∀ (ys : List Str) p, ys.Perm ks → sortedS ys = true → G p = none → Q (dR p) (gu G p (.lst (ys.map dS)))
  | _ => False
theorem rps_map {α : Type} {H : Hp} (f : α → V) : ∀ xs : List α, Rps K H (xs.map fun x => .at (f x)) (xs.map f)
  | [] => .nil
  | x :: xs => .cons (.at _) (rps_map f xs)
theorem lc_sortDI : LC K rSortD dSortDI := fun H G ds vs Q Q' g r h k => by
  unfold dSortDI at h
  split at h
  · rename_i a
    obtain ⟨v, rfl, r1⟩ := r.one
    obtain ⟨kvs, ks, e0, e, h64, h⟩ := h
    obtain ⟨ws, e1, r2⟩ := g.dct e0
    exact .inl ⟨a, ws, ks, by rw [r1.at_], .inl e1, (KRel.keys r2).symm.trans e, h64, fun ys p hp hs hn => new_lst (ds := ys.map dI) g (rps_map V.int ys) hn (fun p hp' => h ys p hp hs hp') k⟩
  · exact h.elim
theorem lc_sortDS : LC K rSortD dSortDS := fun H G ds vs Q Q' g r h k => by
  unfold dSortDS at h
  split at h
  · rename_i a
    obtain ⟨v, rfl, r1⟩ := r.one
    obtain ⟨kvs, ks, e0, e, h64, h⟩ := h
    obtain ⟨ws, e1, r2⟩ := g.dct e0
    exact .inr ⟨a, ws, ks, by rw [r1.at_], .inl e1, (KRel.keys r2).symm.trans e, h64, fun ys p hp hs hn => new_lst (ds := ys.map dS) g (rps_map V.str ys) hn (fun p hp' => h ys p hp hs hp') k⟩
  · exact h.elim
def dTwo (f : Int → Int → Int) : RDC := fun ds G Q => match ds with
  | [.at (.int i), .at (.int j)] => Q (dI (f i j)) G
  | _ => False
def rTwo (f : Int → Int → Int) : List V → Hp → VK → Prop := fun xs H Q => ∃ i j, xs = [.int i, .int j] ∧ Q (.int (f i j)) H
theorem lc_two {f : Int → Int → Int} : LC K (rTwo f) (dTwo f) := fun H G ds vs Q Q' g r h k => by
  unfold dTwo at h
  split at h
  · obtain ⟨v, u, rfl, r1, r2⟩ := r.two
    exact ⟨_, _, by rw [r1.at_, r2.at_], k _ H _ G (Tp.refl H) g (.at _) h⟩
  · exact h.elim
theorem cr_max2 (hc : X.calm = true) : CallR X (.builtin "max") (rTwo fun i j => if j > i then j else i) := call_max2 hc
theorem cr_min2 (hc : X.calm = true) : CallR X (.builtin "min") (rTwo fun i j => if j < i then j else i) := call_min2 hc

/-! min, max of a list that reads as data -/
def rBest (K : PySem.W.Frag) (f : PyData → List PyData → PyData) : List V → Hp → VK → Prop := fun vs H Q => ∃ a xs p ps, vs = [V.ref a] ∧ SqL K H a xs ∧ DpAll K H xs (p :: ps) ∧ PySem.W.AlikeAll (p :: ps) ∧ PyData.depthAll (p :: ps) ≤ 8 ∧ PyData.canLayAll0 (p :: ps) = true ∧
  ∀ (i : Nat) v q, xs[i]? = some v → (p :: ps)[i]? = some q → q = f p ps → Q v H
theorem dpAll_at {H : Hp} : ∀ {xs : List V} {ps : List PyData} {i : Nat} {v : V}, DpAll K H xs ps → xs[i]? = some v → ∃ q, ps[i]? = some q ∧ Dp K H v q
  | _, _, _, _, .nil, e => by simp at e
  | _, _, 0, _, .cons h _, e => by simp at e; subst e; exact ⟨_, rfl, h⟩
  | _, _, i + 1, v, .cons _ r, e => by
    obtain ⟨q, h1, h2⟩ := dpAll_at (i := i) (v := v) r (by simpa using e)
    exact ⟨q, by simpa using h1, h2⟩
theorem canLay_at : ∀ {ps : List PyData} {i : Nat} {q : PyData}, PyData.canLayAll0 ps = true → ps[i]? = some q → PyData.canLay0 q = true
  | [], _, _, _, e => by simp at e
  | p :: ps, i, q, h, e => by
    rw [PyData.canLayAll0, Bool.and_eq_true] at h
    cases i with
    | zero => simp at e; subst e; exact h.1
    | succ i => exact canLay_at h.2 (by simpa using e)
theorem vals_back : ∀ {xs : List V} {us : List Value} {i : Nat} {u : Value}, Vals xs us → us[i]? = some u → ∃ v, xs[i]? = some v ∧ RelV v u
  | _, _, _, _, .nil, e => by simp at e
  | _, _, 0, _, .cons h _, e => by simp at e; subst e; exact ⟨_, rfl, h⟩
  | _, _, i + 1, u, .cons _ r, e => by
    obtain ⟨q, h1, h2⟩ := vals_back (i := i) (u := u) r (by simpa using e)
    exact ⟨q, by simpa using h1, h2⟩
theorem best_end {pins : List (Addr × Obj)} {s : Shared} {σ : L2.St} {H : Hp} {Q : VK} {a : Addr} {xs : List V} {p : PyData} {ps : List PyData} {its : List Value} {f : PyData → List PyData → PyData} (I : Inv X pins σ H s) (rv : Vals xs its) (hd : DpAll X.K H xs (p :: ps)) (hc : PyData.canLayAll0 (p :: ps) = true)
    (h : ∀ (i : Nat) v q, xs[i]? = some v → (p :: ps)[i]? = some q → q = f p ps → Q v H) (i : Nat) (v : Value) (h' : Heap) (tk : Nat) (bs : List Addr) (hv : its.toArray[i]? = some v) (hr : Reads h' v (f p ps) bs) (hk : ∀ b o, s.heap.get? b = some o → h'.get? b = some o) :
    EP X pins σ Q v { s with heap := h', toks := tk } := by
  have hv2 : its[i]? = some v := by simpa using hv
  obtain ⟨x, e1, r1⟩ := vals_back rv hv2
  obtain ⟨q, e2, d2⟩ := dpAll_at hd e1
  obtain ⟨as, rd⟩ := Dp.reads I q x v d2 r1
  have eq := PySem.SeqAt.Reads.unique q (f p ps) v as bs (canLay_at hc e2) (PyProof.Rows.Reads.keeps hk rd) hr
  exact ⟨x, H, I.kept hk, r1, h i x q e1 e2 eq⟩
theorem cr_minL (hu : X.A.units + 64 < cLine) (hcalm : X.calm = true) : CallR X (.builtin "min") (rBest X.K PySem.W.minD) := by
  intro pins s σ H vs us Q I r h
  obtain ⟨a, xs, p, ps, rfl, hs, hd, hal, hdp, hc, h⟩ := h
  obtain rfl := Vals.ref1 r
  obtain ⟨its, rv, hl, hz⟩ := I.list hs
  obtain ⟨as, rd⟩ := Dp.readsAll I _ _ _ hd rv
  exact PySem.W.min_list_data (I.ok.hd hcalm) hl.isList (by simpa using rd) hal (by omega) fun i v h' tk bs hv hr hk => best_end (a := a) I rv hd hc h i v h' tk bs hv hr hk
theorem cr_maxL (hu : X.A.units + 64 < cLine) (hcalm : X.calm = true) : CallR X (.builtin "max") (rBest X.K PySem.W.maxD) := by
  intro pins s σ H vs us Q I r h
  obtain ⟨a, xs, p, ps, rfl, hs, hd, hal, hdp, hc, h⟩ := h
  obtain rfl := Vals.ref1 r
  obtain ⟨its, rv, hl, hz⟩ := I.list hs
  obtain ⟨as, rd⟩ := Dp.readsAll I _ _ _ hd rv
  exact PySem.W.max_list_data (I.ok.hd hcalm) hl.isList (by simpa using rd) hal (by omega) fun i v h' tk bs hv hr hk => best_end (a := a) I rv hd hc h i v h' tk bs hv hr hk
def dBest (f : PyData → List PyData → PyData) : RDC := fun ds G Q => match ds with
  | [.at (.ref a)] => ∃ x xs, G a = some (.lst (x :: xs)) ∧ plains (x :: xs) = true ∧ PySem.W.AlikeAll (pys (x :: xs)) ∧ PyData.depthAll (pys (x :: xs)) ≤ 8 ∧ PyData.canLayAll0 (pys (x :: xs)) = true ∧ ∀ d ∈ x :: xs, py d = f (py x) (pys xs) → Q d G
  | _ => False
theorem pys_at : ∀ {l : List D} {i : Nat} {d : D} {q : PyData}, l[i]? = some d → (pys l)[i]? = some q → q = py d
  | [], _, _, _, e, _ => by simp at e
  | x :: l, 0, d, q, e, e2 => by simp [pys] at e e2; subst e; exact e2.symm
  | x :: l, i + 1, d, q, e, e2 => pys_at (l := l) (i := i) (by simpa using e) (by simpa [pys] using e2)
theorem lc_best {f : PyData → List PyData → PyData} : LC K (rBest K f) (dBest f) := fun H G ds vs Q Q' g r h k => by
  unfold dBest at h
  split at h
  · rename_i a
    obtain ⟨v, rfl, r1⟩ := r.one
    obtain ⟨x, xs, e0, hp, hal, hd, hc, h⟩ := h
    obtain ⟨us, e1, r2⟩ := g.lst e0
    refine ⟨a, us, py x, pys xs, by rw [r1.at_], SqL.of e1, DPys.dps g (DPys.of G _ hp) r2, hal, hd, hc, fun i v q ev eq ef => ?_⟩
    obtain ⟨d, ed, rd⟩ := r2.getV ev
    exact k v H d G (Tp.refl H) g rd (h d (List.mem_of_getElem? ed) (by rw [← pys_at ed eq]; exact ef))
  · exact h.elim

/-! sorted of a list that reads as data -/
def rSortL (K : PySem.W.Frag) : List V → Hp → VK → Prop := fun vs H Q => ∃ (a : Addr) (xs : List V) (ps : List (V × PyData)), vs = [V.ref a] ∧ SqL K H a xs ∧ xs = ps.map (·.1) ∧ DpAll K H xs (ps.map (·.2)) ∧ PySem.W.AllAlike (ps.map (·.2)) ∧ PySem.W.Sortable (ps.map (·.2)) ∧ (∀ q ∈ ps, q.2.depth ≤ 8) ∧
  ∀ p, H p = none → Q (.ref p) (upd H p (.lst ((ps.mergeSort (PySem.W.dataLe false fun q : V × PyData => q.2)).map (·.1))))
theorem each_of : ∀ {ps : List (V × PyData)} {us : List Value}, Vals (ps.map (·.1)) us → PySem.W.EachIs (fun v b => RelV b.1 v) us ps
  | [], _, r => by cases r; exact .nil
  | p :: ps, _, r => by
    cases r with
    | cons h t => exact .cons h (each_of t)
theorem each_vals : ∀ {ps : List (V × PyData)} {us : List Value}, PySem.W.EachIs (fun v b => RelV b.1 v) us ps → Vals (ps.map (·.1)) us
  | _, _, .nil => .nil
  | _, _, .cons h t => .cons h (each_vals t)
theorem cr_sortL (hu : X.A.units + 64 < cLine) : CallR X (.builtin "sorted") (rSortL X.K) := by
  intro pins s σ H vs us Q I r h
  obtain ⟨a, xs, ps, rfl, hs, hx, hd, hal, hk, hdp, h⟩ := h
  subst hx
  obtain rfl := Vals.ref1 r
  obtain ⟨its, rv, hl, hz⟩ := I.list hs
  obtain ⟨as, rd⟩ := Dp.readsAll I _ _ _ hd rv
  refine PySem.W.sorted_data (enc := fun q : V × PyData => q.2) (R := fun v (b : V × PyData) => RelV b.1 v) hl.isList (each_of rv) (PySem.W.readsAll_each _ rd) hal hk (by simpa using hz) (fun b hb => by have := hdp b hb; omega) fun out hlen ho => ?_
  obtain ⟨ep, he'⟩ := PyProof.Rows.sortedAll_at s.heap its out.toArray
  have hv := each_vals ho
  have hlen2 : ((ps.mergeSort (PySem.W.dataLe false fun q : V × PyData => q.2)).map (·.1)).length ≤ sizeLine := by
    rw [hv.length, hlen]
    simpa using hz
  exact ⟨.ref _, upd H (s.heap.objs.size + 1) (.lst ((ps.mergeSort (PySem.W.dataLe false fun q : V × PyData => q.2)).map (·.1))), I.laid (t' := s.toks) (fun _ _ => PyProof.Rows.sortedAll_old) (Nat.le_succ _) ⟨hlen2, out, ep, hv, he'⟩, rfl, h _ (I.hok.fresh (Nat.le_succ _))⟩
def dSortL : RDC := fun ds G Q => match ds with
  | [.at (.ref a)] => ∃ xs, G a = some (.lst xs) ∧ plains xs = true ∧ PySem.W.AllAlike (pys xs) ∧ PySem.W.Sortable (pys xs) ∧ (∀ d ∈ xs, (py d).depth ≤ 8) ∧ ∀ p, G p = none → Q (dR p) (gu G p (.lst (xs.mergeSort (PySem.W.dataLe false py))))
  | _ => False
theorem zip_mem {H : Hp} : ∀ {xs : List D} {us : List V}, Rps K H xs us → ∀ q ∈ xs.zip us, Rp K H q.1 q.2
  | _, _, .nil, q, hq => by simp at hq
  | _, _, .cons h t, q, hq => by
    rw [List.zip_cons_cons, List.mem_cons] at hq
    rcases hq with rfl | hq
    · exact h
    · exact zip_mem t q hq
theorem zip_pys {H : Hp} : ∀ {xs : List D} {us : List V}, Rps K H xs us → (xs.zip us).map (fun q => (q.2, py q.1)) = us.zip (pys xs)
  | _, _, .nil => rfl
  | _, _, .cons h t => by rw [List.zip_cons_cons, List.map_cons, zip_pys t]; rfl
theorem zip_back {H : Hp} : ∀ (l : List (D × V)), (∀ q ∈ l, Rp K H q.1 q.2) → Rps K H (l.map (·.1)) (l.map (·.2))
  | [], _ => .nil
  | q :: l, h => .cons (h q List.mem_cons_self) (zip_back l fun x hx => h x (List.mem_cons_of_mem _ hx))
theorem mergeSort_zip {H : Hp} {xs : List D} {us : List V} (r : Rps K H xs us) : Rps K H (xs.mergeSort (PySem.W.dataLe false py)) (((us.zip (pys xs)).mergeSort (PySem.W.dataLe false fun q : V × PyData => q.2)).map (·.1)) := by
  have hl := r.length
  have e1 : (xs.zip us).map (fun q : D × V => q.1) = xs := List.map_fst_zip (by omega)
  have m1 : xs.mergeSort (PySem.W.dataLe false py) = ((xs.zip us).mergeSort (PySem.W.dataLe false fun q : D × V => py q.1)).map (fun q => q.1) := by
    have z := List.map_mergeSort (r := PySem.W.dataLe false fun q : D × V => py q.1) (s := PySem.W.dataLe false py) (f := fun q : D × V => q.1) (l := xs.zip us) (fun a _ b _ => rfl)
    rw [z, e1]
  have m2 : (us.zip (pys xs)).mergeSort (PySem.W.dataLe false fun q : V × PyData => q.2) = ((xs.zip us).mergeSort (PySem.W.dataLe false fun q : D × V => py q.1)).map (fun q => (q.2, py q.1)) := by
    have z := List.map_mergeSort (r := PySem.W.dataLe false fun q : D × V => py q.1) (s := PySem.W.dataLe false fun q : V × PyData => q.2) (f := fun q : D × V => (q.2, py q.1)) (l := xs.zip us) (fun a _ b _ => rfl)
    rw [z, zip_pys r]
  rw [m1, m2, List.map_map]
  exact zip_back _ fun q hq => zip_mem r q ((List.mergeSort_perm _ _).mem_iff.mp hq)
theorem lc_sortL : LC K (rSortL K) dSortL := fun H G ds vs Q Q' g r h k => by
  unfold dSortL at h
  split at h
  · rename_i a
    obtain ⟨v, rfl, r1⟩ := r.one
    obtain ⟨xs, e0, hp, hal, hk, hd, h⟩ := h
    obtain ⟨us, e1, r2⟩ := g.lst e0
    have hl := r2.length
    have hlp : (pys xs).length = xs.length := by rw [pys_map, List.length_map]
    have z1 : (us.zip (pys xs)).map (·.1) = us := List.map_fst_zip (by omega)
    have z2 : (us.zip (pys xs)).map (·.2) = pys xs := List.map_snd_zip (by omega)
    refine ⟨a, us, us.zip (pys xs), by rw [r1.at_], SqL.of e1, z1.symm, by rw [z2]; exact DPys.dps g (DPys.of G _ hp) r2, by rw [z2]; exact hal, by rw [z2]; exact hk, fun q hq => ?_, fun p hn => new_lst g (mergeSort_zip r2) hn h k⟩
    have : q.2 ∈ pys xs := by rw [← z2]; exact List.mem_map.mpr ⟨q, hq, rfl⟩
    rw [pys_map] at this
    obtain ⟨d, hd', e⟩ := List.mem_map.mp this
    rw [← e]
    exact hd d hd'
  · exact h.elim
end
end Dl

set_option Elab.async false
set_option linter.all false
set_option maxRecDepth 100000
set_option maxHeartbeats 4000000
/-! The data layer: isinstance, methods of lists and dicts, try. -/
namespace Dl
open PySem PySem.Spec PyProof.Rows L2

/-! isinstance of built-in types -/
inductive Ki where | int | bl | str | non | tup | lst | dct
def Ki.nm : Ki → String
  | .int => "int"
  | .bl => "bool"
  | .str => "str"
  | .non => "NoneType"
  | .tup => "tuple"
  | .lst => "list"
  | .dct => "dict"
def Ki.is : Ki → Ki → Bool
  | .bl, .int => true
  | .int, .int => true
  | .bl, .bl => true
  | .str, .str => true
  | .non, .non => true
  | .tup, .tup => true
  | .lst, .lst => true
  | .dct, .dct => true
  | _, _ => false
theorem Ki.one {K : PySem.W.Frag} (a b : Ki) : PySem.W.kitOne K (.type a.nm) (.type b.nm) = some (a.is b) := kit_ty (by cases a <;> cases b <;> decide +kernel)
theorem Ki.any {K : PySem.W.Frag} (a : Ki) : ∀ bs : List Ki, PySem.W.kitAny K (.type a.nm) (bs.map fun b => .type b.nm) = some (bs.any fun b => a.is b)
  | [] => rfl
  | b :: bs => by
    rw [List.map_cons, List.any_cons]
    refine kitAny_cons (Ki.one a b) (fun h => ?_) (fun h => ?_)
    · rw [h, Bool.false_or]; exact Ki.any a bs
    · rw [h, Bool.true_or]
def kiMO : Option MO → Option Ki
  | some (.lst _) => some .lst
  | some (.dct _) => some .dct
  | _ => none
def kiD (d : D) (G : GH) : Option Ki := match d with
  | .at (.int _) => some .int
  | .at (.bl _) => some .bl
  | .at (.str _) => some .str
  | .at .non => some .non
  | .at (.ref a) => kiMO (G a)
  | .tup _ => some .tup
  | _ => none
theorem kiD_ty {K : PySem.W.Frag} {G : GH} {H : Hp} {d : D} {v : V} {k : Ki} (g : RelG K G H) (r : Rp K H d v) (h : kiD d G = some k) : TyX K H v (.type k.nm) := by
  unfold kiD at h
  split at h
  · cases h; rw [r.at_]; exact .base (.int _)
  · cases h; rw [r.at_]; exact .base (.bl _)
  · cases h; rw [r.at_]; exact .base (.str _)
  · cases h; rw [r.at_]; exact .base .non
  · rename_i a
    rw [r.at_]
    unfold kiMO at h
    split at h
    · rename_i xs e
      cases h
      obtain ⟨vs, e1, _⟩ := g.lst e
      exact .base (.lst e1)
    · rename_i kvs e
      cases h
      obtain ⟨vs, e1, _⟩ := g.dct e
      exact .base (.dK e1)
    · cases h
  · cases h
    obtain ⟨a, vs, rfl, hs, _⟩ := r.tup_
    rcases hs with hs | ⟨o, _, _, e1, e2, _⟩
    · rcases hs with hs | ⟨o, hs⟩
      · exact .base (.tup hs)
      · exact .fTuple hs
    · exact .kTuple e1 e2
  · cases h
section
variable {X : Cx} {B : Hp} {K : PySem.W.Frag} {e o : Expr} {te to : TDE} {p pos apos cpos : Pos}
/-- isinstance(e, T) -/
def dIsi (bs : List Ki) (te : TDE) : TDE := fun δ G Q => te δ G fun d G1 => ∃ k, kiD d G1 = some k ∧ Q (dB (bs.any fun b => k.is b)) G1
theorem tyv (n : String) : RelV (.ty n) (.type n) := rfl
theorem de_isi {T : Str} {q : Pos} (b : Ki) (hb : bootBuiltins T = some (.type b.nm)) (hT : X.mg T = none) (gT : Gl X T) (hg : Gl X "isinstance") (hm : X.mg "isinstance" = none) (he : DE X B e te)
    (hnT : T ≠ "__name__" := by decide) (hdT : (T == ("__debug__" : Str)) = false := by decide) (h1 : starEach [e, .Name T q] X.env = (false, eval e X.env) :: starEach [.Name T q] X.env := by rfl)
    (h2 : starEach [.Name T q] X.env = (false, eval (.Name T q) X.env) :: starEach [] X.env := by rfl) (hpl : (backTo pos (starEach [.Name T q] X.env)).any (·.1) = false := by rfl) :
    DE X B (.Call (.Name "isinstance" p) [e, .Name T q] [] pos) (dIsi [b] te) := by
  obtain ⟨t1, p1, l1⟩ := he
  have pT : PE X (.Name T q) (tC (.ty b.nm)) := pe_bltn gT hT hb (tyv _) hnT hdT
  refine ⟨_, pe_callB call_isi hg hm (by decide +kernel) (pa_cons p1 (pa_cons pT pa_nil h2) h1) (by decide) (by decide) h1 hpl, fun σ H δ G Q Q' R h k => l1 σ H δ G _ _ R h fun v H1 d G1 t1 g1 r1 h1 => ?_⟩
  obtain ⟨c, e1, h1⟩ := h1
  refine ⟨v, .ty b.nm, _, _, _, rfl, .ty _, kiD_ty g1 r1 e1, Ki.one c b, ?_⟩
  rw [List.any_cons, List.any_nil, Bool.or_false] at h1
  exact k _ H1 _ G1 t1 g1 (.at _) h1
/-- isinstance(e, (T, U)) -/
theorem de_isi2 {T U : Str} {q r p2 : Pos} {x1} (b c : Ki) (hb : bootBuiltins T = some (.type b.nm)) (hT : X.mg T = none) (gT : Gl X T) (hc : bootBuiltins U = some (.type c.nm)) (hU : X.mg U = none) (gU : Gl X U) (hg : Gl X "isinstance") (hm : X.mg "isinstance" = none) (he : DE X B e te)
    (hnT : T ≠ "__name__" := by decide) (hdT : (T == ("__debug__" : Str)) = false := by decide) (hnU : U ≠ "__name__" := by decide) (hdU : (U == ("__debug__" : Str)) = false := by decide)
    (h1 : starEach [e, .Tuple [.Name T q, .Name U r] x1 p2] X.env = (false, eval e X.env) :: starEach [.Tuple [.Name T q, .Name U r] x1 p2] X.env := by rfl)
    (h2 : starEach [.Tuple [.Name T q, .Name U r] x1 p2] X.env = (false, eval (.Tuple [.Name T q, .Name U r] x1 p2) X.env) :: starEach [] X.env := by rfl) (hpl : (backTo pos (starEach [.Tuple [.Name T q, .Name U r] x1 p2] X.env)).any (·.1) = false := by rfl) :
    DE X B (.Call (.Name "isinstance" p) [e, .Tuple [.Name T q, .Name U r] x1 p2] [] pos) (dIsi [b, c] te) := by
  obtain ⟨t1, p1, l1⟩ := he
  have pT : PE X (.Name T q) (tC (.ty b.nm)) := pe_bltn gT hT hb (tyv _) hnT hdT
  have pU : PE X (.Name U r) (tC (.ty c.nm)) := pe_bltn gU hU hc (tyv _) hnU hdU
  refine ⟨_, pe_callB call_isiT hg hm (by decide +kernel) (pa_cons p1 (pa_cons (pe_tup (pa_cons pT (pa_cons pU pa_nil))) pa_nil h2) h1) (by decide) (by decide) h1 hpl, fun σ H δ G Q Q' R h k => l1 σ H δ G _ _ R h fun v H1 d G1 t1 g1 r1 h1 => ?_⟩
  obtain ⟨a, e1, h1⟩ := h1
  refine ⟨by rw [sizeLine_eq]; exact (show 2 ≤ 16777216 by decide), fun tp hp => ?_⟩
  have tp2 : Tp H1 (upd H1 tp (.tup [.ty b.nm, .ty c.nm])) := Tp.new hp
  have g2 : RelG X.K G1 (upd H1 tp (.tup [.ty b.nm, .ty c.nm])) := (g1.new (m := .raw (.tup [.ty b.nm, .ty c.nm])) hp ⟨rfl, rfl⟩).le (Le.new (g1.fresh hp))
  exact ⟨v, tp, _, _, [.type b.nm, .type c.nm], _, rfl, upd_same, .cons (.ty _) (.cons (.ty _) .nil), kiD_ty g2 (r1.mono tp2) e1, Ki.any a [b, c], k _ _ _ G1 (t1.trans tp2) g2 (.at _) h1⟩

/-! list.append, list.index -/
def dAppend : RDM := fun x ds G Q => match x, ds with
  | .at (.ref a), [d] => ∃ xs, G a = some (.lst xs) ∧ xs.length < zL ∧ Q dN (gu G a (.lst (xs ++ [d])))
  | _, _ => False
theorem lm_append : LM K rAppend dAppend := fun H G d ds v vs Q Q' g rd rds h k => by
  unfold dAppend at h
  split at h
  · rename_i a d
    obtain ⟨u, rfl, ru⟩ := rds.one
    obtain ⟨xs, e, hz, h⟩ := h
    obtain ⟨us, e1, r2⟩ := g.lst e
    have tp : Tp H (upd H a (.lst (us ++ [u]))) := Tp.set e1 trivial
    exact ⟨a, us, u, rd.at_, rfl, e1, by rw [← r2.length, ← zL_eq]; exact hz, k _ _ _ _ tp (g.set (m := .lst (xs ++ [d])) e e1 trivial ⟨rfl, _, rfl, (r2.mono tp).app (.cons (ru.mono tp) .nil)⟩) (.at _) h⟩
  · exact h.elim
def dIndex : RDM := fun x ds G Q => match x, ds with
  | .at (.ref a), [.at y] => ∃ xs j z, G a = some (.lst xs) ∧ flatV y = true ∧ xs.all flatD = true ∧ xs[j]? = some (.at z) ∧ eqV z y = true ∧ (∀ (m : Nat) z', m < j → xs[m]? = some (.at z') → eqV z' y = false) ∧ Q (dI (j : Nat)) G
  | _, _ => False
theorem lm_index : LM K (rIndex K) dIndex := fun H G d ds v vs Q Q' g rd rds h k => by
  unfold dIndex at h
  split at h
  · rename_i a y
    obtain ⟨u, rfl, ru⟩ := rds.one
    have := ru.at_
    subst this
    obtain ⟨xs, j, z, e, hy, hx, hj, he, hn, h⟩ := h
    obtain ⟨us, e1, r2⟩ := g.lst e
    obtain ⟨eu, fu⟩ := flat_vs hx r2
    refine ⟨a, us, u, j, z, rd.at_, rfl, SqL.of e1, hy, fu, ?_, he, fun m z' hm hz => ?_, k _ H _ G (Tp.refl H) g (.at _) h⟩
    · rw [eu, List.getElem?_map, hj]; rfl
    · rw [eu, List.getElem?_map] at hz
      cases q : xs[m]? with
      | none => rw [q] at hz; cases hz
      | some d =>
        rw [q] at hz
        have fd := List.all_eq_true.mp hx d (List.mem_of_getElem? q)
        cases d with
        | «at» w => cases hz; exact hn m w hm q
        | tup l => cases fd
        | frl l => cases fd
  · exact h.elim
/-! d.pop(k, x) -/
def dPop2 (to tk tx : TDE) : TDE := fun δ G Q => to δ G fun x G1 => match x with
  | .at (.ref a) => (∃ kvs, G1 a = some (.dct kvs)) ∧ tk δ G1 fun y G2 => tx δ G2 fun z G3 => ∃ kvs k, G3 a = some (.dct kvs) ∧ keyOf y = some k ∧ (∀ d, valD kvs k = some d → Q d (gu G3 a (.dct (dropD kvs k)))) ∧ (valD kvs k = none → Q z G3)
  | _ => False
theorem de_pop2 {f : Expr} {tk tx : TDE} (ho : DE X B o to) (he : DE X B e tk) (hf : DE X B f tx) (m : M2 X o "pop" apos e f cpos := by exact ⟨rfl, rfl, rfl, rfl⟩) : DE X B (.Call (.Attribute o "pop" apos) [e, f] [] cpos) (dPop2 to tk tx) := by
  obtain ⟨t1, p1, l1⟩ := ho
  obtain ⟨t2, p2, l2⟩ := he
  obtain ⟨t3, p3, l3⟩ := hf
  refine ⟨_, pe_dpop2 p1 p2 p3 m, fun σ H δ G Q Q' R h k => l1 σ H δ G _ _ R h fun x H1 d G1 t1 g1 r1 h1 => ?_⟩
  split at h1
  · rename_i a
    obtain ⟨⟨kvs0, e0⟩, h1⟩ := h1
    obtain ⟨ws0, f0, _⟩ := g1.dct e0
    refine ⟨a, r1.at_, .inl ⟨ws0, .inl f0⟩, l2 σ H1 δ G1 _ _ (R.next t1 g1) h1 fun y H2 dy G2 t2 g2 r2 h2 => l3 σ H2 δ G2 _ _ ((R.next t1 g1).next t2 g2) h2 fun z H3 dz G3 t3 g3 r3 h3 => ?_⟩
    obtain ⟨kvs, q, e3, e4, hy, hn⟩ := h3
    obtain ⟨ws, f3, rr⟩ := g3.dct e3
    have tp : Tp H3 (upd H3 a (.dK (dropK ws q))) := Tp.set f3 trivial
    refine ⟨ws, q, f3, keyOf_rp e4 r2, fun v hv => ?_, fun hv => ?_⟩
    · rcases KRel.val rr q with ⟨d, w, a1, a2, a3⟩ | ⟨a1, a2⟩
      · rw [a2] at hv
        cases hv
        exact k _ _ d _ (((t1.trans t2).trans t3).trans tp) (g3.set (m := .dct (dropD kvs q)) e3 f3 trivial ⟨rfl, _, rfl, KRel.drop (KRel.mono rr tp) q⟩) (a3.mono tp) (hy d a1)
      · rw [a2] at hv; cases hv
    · rcases KRel.val rr q with ⟨d, w, a1, a2, a3⟩ | ⟨a1, a2⟩
      · rw [a2] at hv; cases hv
      · exact k _ H3 dz G3 ((t1.trans t2).trans t3) g3 r3 (hn a1)
  · exact h1.elim
end

/-! try .. except C: -/
section
variable {X : Cx} {B : Hp}
def upSs (K : PySem.W.Frag) (t : TDS) : TS := fun D' σ H => ∃ δ G E, Rl K H δ G σ H ∧ t E δ G ∧ DEnd K H H E D'
theorem DEnd.base {K : PySem.W.Frag} {B H : Hp} {E : DEnds} {D' : Ends} (k : DEnd K B H E D') (b : Tp B H) : DEnd K H H E D' :=
  ⟨fun δ G σ H' t R => k.nx δ G σ H' t ⟨R.s, R.g, b.trans t⟩, k.rt, fun δ G σ H' t R => k.bk δ G σ H' t ⟨R.s, R.g, b.trans t⟩, fun δ G σ H' t R => k.ct δ G σ H' t ⟨R.s, R.g, b.trans t⟩⟩
def upTry (K : PySem.W.Frag) (t : XDW → TDS) (W : WX) : TS := fun D' σ H => ∃ δ G E WD, Rl K H δ G σ H ∧ (∀ C fs od δ G σ H', Rl K H δ G σ H' → XRel K H' fs od → WD C fs δ G → W (.ref C) od σ H') ∧ t WD E δ G ∧ DEnd K H H E D'
def dTry (K : PySem.W.Frag) (c : Addr) (t : XDW → TDS) (ts : TDS) (WD : XDW) : TDS := fun E δ G => t (fun C fs δ1 G1 => ∃ b, PySem.W.exmOne K (.ref C) (.ref c) = some b ∧ (b = true → ts E δ1 G1) ∧ (b = false → WD C fs δ1 G1)) E δ G
theorem ds_try {x : Str} {c : Addr} {body suite : List Stmt} {b₀ : Stmt} {np pos pos' : Pos} {t : XDW → TDS} {ts : TDS} {WD : XDW} (hs : X.stack = X.env :: X.outer) (hf : X.env.frame = some X.env.locals) (hc : Names X x (.ref c)) (hx : XOk X B WD)
    (hb : ∀ (B' : Hp) (pn : List (Addr × Obj)) (xe : Value → Shared → Prop) (WD' : XDW), XOk (X.tr pn xe) B' WD' → PassesOwn (model X.prog X.w) X.A X.env xe → DSs (X.tr pn xe) B' body (t WD'))
    (hsu : ∀ (B' : Hp) (a : Addr) (oe : Obj) (pn : List (Addr × Obj)), DSs (X.suite a ((a, oe) :: pn)) B' (b₀ :: suite) ts) :
    DS X B (.Try body [.ExceptHandler (some (.Name x np)) none (b₀ :: suite) pos'] [] [] pos) (dTry X.K c t ts WD) := by
  obtain ⟨Wout, tk, hW⟩ := hx.ex
  refine ⟨_, ps_try_only (tb := upTry X.K t) (ts := fun _ _ _ => upSs X.K ts) hs hf hc tk (fun W pn xe tkW hp => ?_) (fun a oe cls d pn _ _ => ?_), fun σ H δ G E D' R h k => ?_⟩
  · refine ⟨fun pins s σ H D I ⟨δ, G, E, WD', R, imp, h, k⟩ => ?_⟩
    obtain ⟨ts', pss, l⟩ := hb H pn xe WD' ⟨⟨W, tkW, imp⟩⟩ hp
    exact pss.run pins s σ H D I (l σ H δ G E D R h k)
  · refine ⟨fun pins s σ H D I ⟨δ, G, E, R, h, k⟩ => ?_⟩
    obtain ⟨ts', pss, l⟩ := hsu H a oe pn
    exact pss.run pins s σ H D I (l σ H δ G E D R h k)
  · refine ⟨δ, G, E, _, ⟨R.s, R.g, Tp.refl H⟩, fun C fs od δ1 G1 σ1 H1 R1 xr w => ?_, h, k.base R.b⟩
    obtain ⟨b, e, hy, hn⟩ := w
    refine ⟨b, e, fun q a ha => ?_, fun q => ?_⟩
    · exact ⟨δ1, G1, E, ⟨R1.s, R1.g, Tp.refl _⟩, hy q, (k.mono R1.b).base (R.b.trans R1.b)⟩
    · exact hW C fs od δ1 G1 σ1 H1 ⟨R1.s, R1.g, R.b.trans R1.b⟩ xr (hn q)
end
end Dl

set_option Elab.async false
set_option linter.all false
set_option maxRecDepth 100000
set_option maxHeartbeats 4000000
/-! The data layer: facts of the module, defs by promises, hidden objects, the end. -/
namespace Dl
open PySem PySem.Spec PyProof.Rows L2

/-! ### facts of the module -/
structure Fx (fa : List He.Fa) (fn : List He.DefD) (ex : PySem.W.Frag → Bool) (K : PySem.W.Frag) (mg : Str → Option Value) : Prop where
  says : He.SaysD fa fn K
  more : ex K = true
  here : ∃ h : Heap, K.In h ∧ h.Ns mainGlobals mg
section
variable {fa : List He.Fa} {fn : List He.DefD} {ex : PySem.W.Frag → Bool} {K : PySem.W.Frag} {mg : Str → Option Value}
theorem Fx.glo (c : Fx fa fn ex K mg) (i : Nat) {x : Str} (h : fa[i]? = some (.glo x) := by rfl) : mg x = some (.ref (He.ga K x)) := by
  obtain ⟨h0, a, b⟩ := c.here
  exact He.glo_ok a b (c.says.fact i h)
theorem Fx.free (c : Fx fa fn ex K mg) (i : Nat) {x : Str} (h : fa[i]? = some (.free x) := by rfl) : mg x = none := by
  obtain ⟨h0, a, b⟩ := c.here
  exact He.free_ok a b (c.says.fact i h)
theorem Fx.int (c : Fx fa fn ex K mg) (i : Nat) {x : Str} {z : Int} (h : fa[i]? = some (.int x z) := by rfl) : ∃ t, mg x = some (.int z t) := by
  obtain ⟨h0, a, b⟩ := c.here
  exact He.int_ok a b (c.says.fact i h)
theorem Fx.str (c : Fx fa fn ex K mg) (i : Nat) {x z : Str} (h : fa[i]? = some (.str x z) := by rfl) : ∃ t, mg x = some (.str z t) := by
  obtain ⟨h0, a, b⟩ := c.here
  exact He.str_ok a b (c.says.fact i h)
theorem Fx.cls (c : Fx fa fn ex K mg) (i : Nat) {x : Str} (h : fa[i]? = some (.cls x) := by rfl) : Cls K (He.ga K x) := He.cls_ok (c.says.fact i h)
theorem Fx.noat (c : Fx fa fn ex K mg) (i : Nat) {x f : Str} (h : fa[i]? = some (.noat x f) := by rfl) : NoAttr K (He.ga K x) f := He.noat_ok (c.says.fact i h)
theorem Fx.meth (c : Fx fa fn ex K mg) (i : Nat) {x m : Str} (h : fa[i]? = some (.meth x m) := by rfl) : Meth K (He.ga K x) m (He.ma K (He.ga K x) m) := He.meth_ok (c.says.fact i h)
theorem Fx.mkr (c : Fx fa fn ex K mg) (i : Nat) {x : Str} (h : fa[i]? = some (.mkr x) := by rfl) : Mk K (He.ga K x) (He.ma K (He.ga K x) "__init__") := He.mkr_ok (c.says.fact i h)
theorem Fx.exc (c : Fx fa fn ex K mg) (i : Nat) {x : Str} (h : fa[i]? = some (.exc x) := by rfl) : PySem.W.excIn K (He.ga K x) He.veBase "ValueError.__new__" = true ∧ PySem.W.keepIn K (.ref (He.ga K x)) = true ∧ PySem.W.subIn K (.ref (He.ga K x)) (.type "BaseException") = some true ∧ PySem.W.typeIn K (.ref (He.ga K x)) = some (.type "type") := He.exc_ok (c.says.fact i h)
theorem Fx.exm (c : Fx fa fn ex K mg) (i : Nat) {x y : Str} {b : Bool} (h : fa[i]? = some (.exm x y b) := by rfl) : PySem.W.exmOne K (.ref (He.ga K x)) (.ref (He.ga K y)) = some b := He.exm_ok (c.says.fact i h)
theorem Fx.def_ (c : Fx fa fn ex K mg) (i : Nat) {d : He.DefD} (h : fn[i]? = some d := by rfl) : ∃ fd, FunD K d.name d.qual d.params d.body d.scope (d.dvs K) (d.kws K) (He.fAd K d.at_) fd := c.says.def_ i h
end

/-! ### defs by promises -/
def OkF (P : Program) (w : World) (K : PySem.W.Frag) (mg : Str → Option Value) (base : Heap) (k : Nat) (f : Addr) (ps : List Str) (dsp : DSp) : Prop :=
  ∃ fd, FnOk P w K mg base (L2.CX P w) k f fd ps (spV K dsp) ∧ Binds K fd ps [] ∧ PySem.W.keepIn K (.ref f) = true
section
variable {X : Cx} {B : Hp} {k j : Nat} {f C : Addr} {ps : List Str} {dsp : DSp} {x m : Str} {p pos apos : Pos} {e o : Expr} {es : List Expr} {te : TDE} {t : TDA} {WD : XDW}
theorem de_cf (F : OkF X.prog X.w X.K X.mg X.base k f ps dsp) (hr : Room j X.A) (hm : X.mg x = some (.ref f)) (hx : XOk X B WD) (ha : DA X B (e :: es) t) (hk : k ≤ j := by decide) (hg : Gl X x := by rfl)
    (hdb : (x == ("__debug__" : Str)) = false := by decide) (he : starEach (e :: es) X.env = (false, eval e X.env) :: starEach es X.env := by rfl) (hpl : (backTo pos (starEach es X.env)).any (·.1) = false := by rfl) :
    DE X B (.Call (.Name x p) (e :: es) [] pos) (dCall dsp WD t) := by
  obtain ⟨fd, F, b, kp⟩ := F
  exact de_call F (hr.mono hk) hg hm kp b hx ha hdb he hpl
theorem de_cf0 (F : OkF X.prog X.w X.K X.mg X.base k f ps dsp) (hr : Room j X.A) (hm : X.mg x = some (.ref f)) (hx : XOk X B WD) (hk : k ≤ j := by decide) (hg : Gl X x := by rfl)
    (hdb : (x == ("__debug__" : Str)) = false := by decide) : DE X B (.Call (.Name x p) [] [] pos) (dCall dsp WD dNil) := by
  obtain ⟨fd, F, b, kp⟩ := F
  exact de_call0 F (hr.mono hk) hg hm kp b hx hdb
theorem de_mf {pl : Sem Bool} (F : OkF X.prog X.w X.K X.mg X.base k f ps dsp) (hr : Room j X.A) (c : Cls X.K C) (hm : Meth X.K C m f) (hx : XOk X B WD) (ho : DE X B o te) (ha : DA X B (e :: es) t) (hk : k ≤ j := by decide)
    (hst : starEach (e :: es) X.env = (false, eval e X.env) :: starEach es X.env := by rfl) (hpl : (backTo pos (starEach es X.env)).any (·.1) = false := by rfl)
    (ht : eval (.Call (.Attribute o m apos) (e :: es) [] pos) X.env = (do
      let ov ← eval o X.env
      standAt apos.atName
      let (f, first) ← holding [ov] (getMethod ov m pl)
      callWith pos f first (backTo pos (starEach (e :: es) X.env)) (backToKw pos (keywordEach [] X.env))) := by rfl) :
    DE X B (.Call (.Attribute o m apos) (e :: es) [] pos) (dMeth X.K C m dsp WD te t) := by
  obtain ⟨fd, F, b, kp⟩ := F
  exact de_meth (pl := pl) ho c hm F (hr.mono hk) b hx ha hst hpl ht
theorem de_mf0 {pl : Sem Bool} (F : OkF X.prog X.w X.K X.mg X.base k f ps dsp) (hr : Room j X.A) (c : Cls X.K C) (hm : Meth X.K C m f) (hx : XOk X B WD) (ho : DE X B o te) (hk : k ≤ j := by decide)
    (ht : eval (.Call (.Attribute o m apos) [] [] pos) X.env = (do
      let ov ← eval o X.env
      standAt apos.atName
      let (f, first) ← holding [ov] (getMethod ov m pl)
      callWith pos f first (backTo pos (starEach [] X.env)) (backToKw pos (keywordEach [] X.env))) := by rfl) :
    DE X B (.Call (.Attribute o m apos) [] [] pos) (dMeth X.K C m dsp WD te dNil) := by
  obtain ⟨fd, F, b, kp⟩ := F
  exact de_meth0 (pl := pl) ho c hm F (hr.mono hk) b hx ht
theorem de_mk (F : OkF X.prog X.w X.K X.mg X.base k f ps dsp) (hr : Room j X.A) (M : Mk X.K C f) (hm : X.mg x = some (.ref C)) (hx : XOk X B WD) (ha : DA X B (e :: es) t) (hk : k + 1 ≤ j := by decide) (hg : Gl X x := by rfl)
    (hdb : (x == ("__debug__" : Str)) = false := by decide) (he : starEach (e :: es) X.env = (false, eval e X.env) :: starEach es X.env := by rfl) (hpl : (backTo pos (starEach es X.env)).any (·.1) = false := by rfl) :
    DE X B (.Call (.Name x p) (e :: es) [] pos) (dMake C dsp WD t) := by
  obtain ⟨fd, F, b, kp⟩ := F
  exact de_make M F (hr.mono hk) hg hm b hx ha hdb he hpl
/-! -x -/
def dNeg (te : TDE) : TDE := fun δ G Q => te δ G fun d G1 => match d with
  | .at (.int i) => Q (dI (-i)) G1
  | _ => False
theorem de_neg (he : DE X B e te) : DE X B (.UnaryOp .USub e pos) (dNeg te) := by
  obtain ⟨t1, p1, l1⟩ := he
  refine ⟨_, pe_un un_neg p1, fun σ H δ G Q Q' R h k => l1 σ H δ G _ _ R h fun v H1 d G1 t1 g1 r1 h1 => ?_⟩
  split at h1
  · exact ⟨_, r1.at_, k _ H1 _ G1 t1 g1 (.at _) h1⟩
  · exact h1.elim
/-! raise, of an own class over ValueError -/
theorem ds_rz {K0 : List Value} {ms : Str} {jj : Nat} {p2 : Pos} (hc : X.calm = true) (hx : XOk X B WD) (q : PySem.W.excIn X.K C He.veBase "ValueError.__new__" = true ∧ PySem.W.keepIn X.K (.ref C) = true ∧ PySem.W.subIn X.K (.ref C) (.type "BaseException") = some true ∧ PySem.W.typeIn X.K (.ref C) = some (.type "type"))
    (gC : X.mg x = some (.ref C)) (hg : Gl X x := by rfl) (hdb : (x == ("__debug__" : Str)) = false := by decide) : DS X B (.Raise (some (.Call (.Name x p) [.Constant (.str ms) jj p2] [] pos)) none apos) (dRaise WD C []) :=
  ds_raise (K0 := K0) hc hx PySem.F.excBase_ValueError q.1 gC q.2.1 (raises_own q.2.2.1 q.2.2.2) hg hdb
end

/-! ### comprehensions of plain things -/
theorem lc_pure {K : PySem.W.Frag} {xs : List D} {stay : GH → Prop} {δ' : DSt} {G : GH} {p : Addr} {g : TDG} {tt : TDT} {te : TDE} {Q : DK} (f : D → D) (c : D → Bool) (hz : xs.length ≤ zL) (hst : ∀ acc, stay (gu G p (.lst acc)))
    (step : ∀ x ∈ xs, ∀ (acc : List D) (Qt : D → GH → Prop) (Qf : GH → Prop), (c x = true → Qt (f x) (gu G p (.lst acc))) → (c x = false → Qf (gu G p (.lst acc))) → g x δ' (gu G p (.lst acc)) fun δ1 G2 => tt δ1 G2 fun b G3 => (b = true → te δ1 G3 Qt) ∧ (b = false → Qf G3))
    (h : Q (dR p) (gu G p (.lst ((xs.filter c).map f)))) :
    ∃ W : Nat → GH → Prop, W 0 (gu G p (.lst [])) ∧ (∀ i G, W i G → stay G) ∧
    (∀ i x G, xs[i]? = some x → W i G → g x δ' G fun δ1 G2 => tt δ1 G2 fun b G3 => (b = true → te δ1 G3 fun d G4 => ∃ acc, G4 p = some (.lst acc) ∧ acc.length < zL ∧ ∃ G5, Ent K (gu G4 p (.lst (acc ++ [d]))) G5 ∧ W (i + 1) G5) ∧ (b = false → ∃ G5, Ent K G3 G5 ∧ W (i + 1) G5)) ∧
    ∀ G, W xs.length G → Q (dR p) G := by
  refine ⟨fun i G' => G' = gu G p (.lst (((xs.take i).filter c).map f)), by simp, fun i G' e => by rw [e]; exact hst _, fun i x G' hx e => ?_, fun G' e => by rw [e, List.take_length]; exact h⟩
  subst e
  have hi : i < xs.length := (List.getElem?_eq_some_iff.mp hx).1
  have tk : xs.take (i + 1) = xs.take i ++ [x] := by rw [List.take_add_one, hx]; rfl
  have hl : (((xs.take i).filter c).map f).length < zL := by
    rw [List.length_map]
    have := List.length_filter_le c (xs.take i)
    rw [List.length_take] at this
    omega
  refine step x (List.mem_of_getElem? hx) _ _ _ (fun hc => ?_) fun hc => ?_
  · refine ⟨_, gu_same, hl, _, ?_, rfl⟩
    rw [gu_gu, tk, List.filter_append, List.map_append, List.filter_cons_of_pos hc]
    exact Ent.refl _
  · refine ⟨_, ?_, rfl⟩
    rw [tk, List.filter_append, List.filter_cons_of_neg (by rw [hc]; simp), List.filter_nil, List.append_nil]
    exact Ent.refl _

/-! ### hidden objects -/
def gus (G : GH) : List (Addr × MO) → GH
  | [] => G
  | (a, m) :: l => gu (gus G l) a m
/-- told as it is, no hidden part -/
def Bare : MO → Prop
  | .abs _ => False
  | _ => True
theorem RelMO.bare {K : PySem.W.Frag} {H : Hp} {hid : List Addr} {m : MO} {o : HO} (b : Bare m) (r : RelMO K H hid m o) : hid = [] ∧ RelMO K H [] m o := by
  cases m with
  | abs P => exact b.elim
  | lst ds => obtain ⟨e, q⟩ := r; exact ⟨e, rfl, q⟩
  | dct ds => obtain ⟨e, q⟩ := r; exact ⟨e, rfl, q⟩
  | ins C dx fs => obtain ⟨e, q⟩ := r; exact ⟨e, rfl, q⟩
  | raw o => obtain ⟨e, q⟩ := r; exact ⟨e, rfl, q⟩
/-- objects that may change -/
def ChgM : MO → Prop
  | .lst _ => True
  | .dct _ => True
  | .ins _ _ _ => True
  | _ => False
theorem RelMO.chg {K : PySem.W.Frag} {H : Hp} {hid : List Addr} {m : MO} {o : HO} (b : ChgM m) (r : RelMO K H hid m o) : Chg o := by
  cases m with
  | abs P => exact b.elim
  | raw o => exact b.elim
  | lst ds => obtain ⟨_, _, rfl, _⟩ := r; trivial
  | dct ds => obtain ⟨_, _, rfl, _⟩ := r; trivial
  | ins C dx fs => obtain ⟨_, _, rfl, _⟩ := r; trivial
/-- an object m with parts L, S of them: the parts are the object's own -/
def absS (K : PySem.W.Frag) (S : MO → List (Addr × MO) → Prop) : MO := .abs fun H o hid => ∃ m L, S m L ∧ ChgM m ∧ hid = L.map (·.1) ∧ (L.map (·.1)).Nodup ∧ RelMO K H [] m o ∧ ∀ q ∈ L, ChgM q.2 ∧ ∃ u, H q.1 = some u ∧ RelMO K H [] q.2 u
theorem gus_ne {G : GH} {b : Addr} : ∀ {L : List (Addr × MO)}, b ∉ L.map (·.1) → gus G L b = G b
  | [], _ => rfl
  | (a, m) :: L, h => by
    rw [List.map_cons, List.mem_cons, not_or] at h
    show gu (gus G L) a m b = G b
    rw [gu_ne h.1, gus_ne h.2]
theorem gus_at {G : GH} {b : Addr} {m : MO} : ∀ {L : List (Addr × MO)}, (L.map (·.1)).Nodup → (b, m) ∈ L → gus G L b = some m
  | [], _, h => by cases h
  | (a, n) :: L, hn, h => by
    rw [List.map_cons, List.nodup_cons] at hn
    show gu (gus G L) a n b = some m
    rcases List.mem_cons.mp h with h | h
    · cases h; exact gu_same
    · have hb : b ∈ L.map (·.1) := List.mem_map.mpr ⟨_, h, rfl⟩
      rw [gu_ne (fun e => hn.1 (by rw [← e]; exact hb)), gus_at hn.2 h]
theorem gus_of {G : GH} {b : Addr} {m : MO} : ∀ {L : List (Addr × MO)}, gus G L b = some m → (b, m) ∈ L ∨ (b ∉ L.map (·.1) ∧ G b = some m)
  | [], h => .inr ⟨by simp, h⟩
  | (a, n) :: L, h => by
    have h : gu (gus G L) a n b = some m := h
    by_cases e : b = a
    · subst e; rw [gu_same] at h; cases h; exact .inl List.mem_cons_self
    · rw [gu_ne e] at h
      rcases gus_of h with h | ⟨h1, h2⟩
      · exact .inl (List.mem_cons_of_mem _ h)
      · exact .inr ⟨by rw [List.map_cons, List.mem_cons, not_or]; exact ⟨e, h1⟩, h2⟩
/-- opened -/
theorem RelG.open_ {K : PySem.W.Frag} {G : GH} {H : Hp} {r : Addr} {S : MO → List (Addr × MO) → Prop} (g : RelG K G H) (h : G r = some (absS K S)) :
    ∃ m L, S m L ∧ (L.map (·.1)).Nodup ∧ (∀ q ∈ L, G q.1 = none ∧ q.1 ≠ r) ∧ RelG K (gus (gu G r m) L) H := by
  obtain ⟨hid, R⟩ := g
  obtain ⟨o, ho, P, _, _⟩ := R.ob r _ h
  obtain ⟨m, L, hS, hc, hh, hn, rm, hL⟩ := P
  have out : ∀ q ∈ L, G q.1 = none ∧ q.1 ≠ r := fun q hq => by
    have := (R.hd r _ h q.1 (by rw [hh]; exact List.mem_map.mpr ⟨q, hq, rfl⟩)).1
    exact ⟨this, fun e => by rw [e, h] at this; cases this⟩
  refine ⟨m, L, hS, hn, out, fun b => if b = r ∨ b ∈ L.map (·.1) then [] else hid b, ⟨fun b n e => ?_, fun b n e z hz => ?_, fun b b' n n' e e' z hz hz' => ?_⟩⟩
  · rcases gus_of e with hb | ⟨hb, e⟩
    · obtain ⟨_, u, h1, h2⟩ := hL _ hb
      exact ⟨u, h1, by rw [if_pos (.inr (List.mem_map.mpr ⟨_, hb, rfl⟩))]; exact h2⟩
    · by_cases q : b = r
      · subst q
        rw [gu_same] at e; cases e
        exact ⟨o, ho, by rw [if_pos (.inl rfl)]; exact rm⟩
      · rw [gu_ne q] at e
        obtain ⟨u, h1, h2⟩ := R.ob b n e
        exact ⟨u, h1, by rw [if_neg (by rintro (x | x); exact q x; exact hb x)]; exact h2⟩
  · by_cases q : b = r ∨ b ∈ L.map (·.1)
    · rw [if_pos q] at hz; cases hz
    · rw [if_neg q] at hz
      rcases gus_of e with hb | ⟨hb, e⟩
      · exact absurd (.inr (List.mem_map.mpr ⟨_, hb, rfl⟩)) q
      · rw [gu_ne (fun x => q (.inl x))] at e
        obtain ⟨h1, h2⟩ := R.hd b n e z hz
        refine ⟨?_, h2⟩
        have nz : z ∉ L.map (·.1) := fun hz2 => by
          have := R.dj b r n _ e h z hz (by rw [hh]; exact hz2)
          exact q (.inl this)
        rw [gus_ne nz, gu_ne (fun x => by subst x; rw [h1] at h; cases h)]
        exact h1
  · by_cases q : b = r ∨ b ∈ L.map (·.1)
    · rw [if_pos q] at hz; cases hz
    · by_cases q' : b' = r ∨ b' ∈ L.map (·.1)
      · rw [if_pos q'] at hz'; cases hz'
      · rw [if_neg q] at hz; rw [if_neg q'] at hz'
        have get : ∀ {c : Addr} {n : MO}, ¬(c = r ∨ c ∈ L.map (·.1)) → gus (gu G r m) L c = some n → G c = some n := fun {c n} qc e => by
          rw [gus_ne (fun x => qc (.inr x)), gu_ne (fun x => qc (.inl x))] at e
          exact e
        exact R.dj b b' n n' (get q e) (get q' e') z hz hz'
/-- what is left when the parts are hidden -/
def hideG (K : PySem.W.Frag) (G : GH) (r : Addr) (S : MO → List (Addr × MO) → Prop) (L : List (Addr × MO)) : GH := fun b => if b = r then some (absS K S) else if b ∈ L.map (·.1) then none else G b
/-- closed -/
theorem Ent.close {K : PySem.W.Frag} {G : GH} {r : Addr} {S : MO → List (Addr × MO) → Prop} {m : MO} {L : List (Addr × MO)} (hr : G r = some m) (hm : ChgM m) (hn : (L.map (·.1)).Nodup) (hL : ∀ q ∈ L, G q.1 = some q.2 ∧ q.1 ≠ r ∧ ChgM q.2) (hS : S m L) : Ent K G (hideG K G r S L) := by
  intro H g
  obtain ⟨hid, R⟩ := g
  obtain ⟨o, ho, rm⟩ := R.ob r _ hr
  have bare : ∀ {m : MO}, ChgM m → Bare m := fun {m} h => by cases m <;> trivial
  have rm2 := (RelMO.bare (bare hm) rm).2
  have parts : ∀ q ∈ L, ChgM q.2 ∧ hid q.1 = [] ∧ ∃ u, H q.1 = some u ∧ RelMO K H [] q.2 u := fun q hq => by
    obtain ⟨h1, _, h3⟩ := hL q hq
    obtain ⟨u, e1, e2⟩ := R.ob _ _ h1
    obtain ⟨e3, e4⟩ := RelMO.bare (bare h3) e2
    exact ⟨h3, e3, u, e1, e4⟩
  have nr : r ∉ L.map (·.1) := fun h => by
    obtain ⟨q, hq, e⟩ := List.mem_map.mp h
    exact (hL q hq).2.1 e
  have get : ∀ {b n}, hideG K G r S L b = some n → (b = r ∧ n = absS K S) ∨ (b ≠ r ∧ b ∉ L.map (·.1) ∧ G b = some n) := fun {b n} e => by
    unfold hideG at e
    by_cases q : b = r
    · rw [if_pos q] at e; exact .inl ⟨q, (Option.some.inj e).symm⟩
    · rw [if_neg q] at e
      by_cases q2 : b ∈ L.map (·.1)
      · rw [if_pos q2] at e; cases e
      · rw [if_neg q2] at e; exact .inr ⟨q, q2, e⟩
  refine ⟨fun b => if b = r then L.map (·.1) else hid b, ⟨fun b n e => ?_, fun b n e z hz => ?_, fun b b' n n' e e' z hz hz' => ?_⟩⟩
  · rcases get e with ⟨rfl, rfl⟩ | ⟨q, q2, e⟩
    · refine ⟨o, ho, ?_⟩
      rw [if_pos rfl]
      have base : ∀ H', Tp H H' → (∀ b ∈ L.map (·.1), H' b = H b) → ∃ m L', S m L' ∧ ChgM m ∧ L.map (·.1) = L'.map (·.1) ∧ (L'.map (·.1)).Nodup ∧ RelMO K H' [] m o ∧ ∀ q ∈ L', ChgM q.2 ∧ ∃ u, H' q.1 = some u ∧ RelMO K H' [] q.2 u := fun H' t k =>
        ⟨m, L, hS, hm, rfl, hn, rm2.mono t (fun _ h => by cases h), fun q hq => by
          obtain ⟨h1, _, u, h2, h3⟩ := parts q hq
          exact ⟨h1, u, by rw [k q.1 (List.mem_map.mpr ⟨q, hq, rfl⟩)]; exact h2, h3.mono t (fun _ h => by cases h)⟩⟩
      exact ⟨base H (Tp.refl H) (fun _ _ => rfl), base, rm.chg hm⟩
    · obtain ⟨u, h1, h2⟩ := R.ob b n e
      exact ⟨u, h1, by rw [if_neg q]; exact h2⟩
  · rcases get e with ⟨rfl, rfl⟩ | ⟨q, q2, e⟩
    · rw [if_pos rfl] at hz
      obtain ⟨p, hp, e2⟩ := List.mem_map.mp hz
      obtain ⟨_, _, u, h2, _⟩ := parts p hp
      refine ⟨?_, by rw [← e2, h2]; rfl⟩
      unfold hideG
      rw [if_neg (by rintro rfl; exact nr hz), if_pos hz]
    · rw [if_neg q] at hz
      obtain ⟨h1, h2⟩ := R.hd b n e z hz
      refine ⟨?_, h2⟩
      unfold hideG
      rw [if_neg (by rintro rfl; rw [hr] at h1; cases h1)]
      by_cases q3 : z ∈ L.map (·.1)
      · rw [if_pos q3]
      · rw [if_neg q3]; exact h1
  · have seen : ∀ {c : Addr} {n : MO} {z : Addr}, G c = some n → z ∈ hid c → z ∉ L.map (·.1) := fun {c n z} e hz h => by
      obtain ⟨p, hp, e2⟩ := List.mem_map.mp h
      have := (R.hd c n e z hz).1
      rw [← e2, (hL p hp).1] at this
      cases this
    rcases get e with ⟨eb, _⟩ | ⟨q, q2, e3⟩
    · rcases get e' with ⟨eb', _⟩ | ⟨q', q2', e3'⟩
      · rw [eb, eb']
      · rw [if_pos eb] at hz; rw [if_neg q'] at hz'
        exact absurd hz (seen e3' hz')
    · rcases get e' with ⟨eb', _⟩ | ⟨q', q2', e3'⟩
      · rw [if_pos eb'] at hz'; rw [if_neg q] at hz
        exact absurd hz' (seen e3 hz)
      · rw [if_neg q] at hz; rw [if_neg q'] at hz'
        exact R.dj b b' n n' e3 e3' z hz hz'

/-! ### the end -/
theorem rel0 {K : PySem.W.Frag} {H : Hp} : RelG K (fun _ => none) H := ⟨fun _ => [], ⟨(fun _ _ e => by cases e), (fun _ _ e => by cases e), (fun _ _ _ _ e => by cases e)⟩⟩
theorem sqf_of {K : PySem.W.Frag} {H : Hp} {a : Addr} {xs : List V} (hO : Only H) (hS : SqL K H a xs) : SqF K H a xs := by
  rcases hS with (h | ⟨o, h⟩) | h
  · rcases hO a with e | ⟨o, ys, e⟩
    · rw [e] at h; cases h
    · rw [e] at h; cases h
  · exact .inl ⟨o, h⟩
  · exact .inr h
/-- the law's promise over data -/
def dspLaw : DSp := fun ds G Q _ => ∃ ns : List Int, ds = [.frl (ns.map dI)] ∧ ns.length ≤ 63 ∧ G = (fun _ => none) ∧ ∀ G', Q (dB true) G'
theorem walk_dl {l : PySem.W.OpenLaw} {k : Nat} {q : Program} {loose : List Str} {XP : (Str → Option Value) → Heap → Prop} {YP : World → Heap → Prop} {d : DefRec} {x : Str}
    (hn : l.most = some 63) (hdf : d.params.defaults = []) (hr : Room k callerA)
    (F : ∀ (w : World) (mg : Str → Option Value) (fa : Addr) (h : Heap), YP w h → h.Ns mainGlobals mg → mg d.name = some (.ref fa) → ∃ (K : PySem.W.Frag) (fd : FuncData), K.In h ∧ (∀ (s : Shared) (u : Value), BindsTo s fd ⟨[u], []⟩ [(x, u)]) ∧
        ∀ base : Heap, K.In base → base.Ns mainGlobals mg → FnOk l.prog w K mg base (L2.CX l.prog w) k fa fd [x] (spV K dspLaw)) :
    PySem.W.WalkO q loose XP YP l.row.toRowW d [] (fun f vs => PySem.call f vs) := by
  refine Att.attach_call hn hdf ?_
  intro w s₀ s₁ mg mb fa o pm cd doc a vs ns G Y ho hd hcd hmg hobj hints hlen hg
  obtain ⟨K, fd, KX, hb, hF⟩ := F w mg fa _ Y G.T.g hmg
  refine law_call KX G.T.g G.T.b G.T.builtins G.T.nolimit hg hobj hints (Nat.le_trans hlen (by rw [sizeLine_eq]; decide)) hr hF hb ?_ ?_
  · intro H hO hS
    refine ⟨[.frl (ns.map dI)], fun _ => none, fun d _ => d = dB true, fun _ _ _ => False, rel0, .cons (.frl (sqf_of hO hS) ?_) .nil, ⟨ns, rfl, hlen, rfl, fun _ => rfl⟩, fun v H' d G' _ _ r e => ?_, fun _ _ _ _ _ _ _ _ e => e⟩
    · exact rps_map V.int ns
    · subst e; exact r.at_
  · rintro H e s' ⟨_, _, _, _, _, _, _, _, _, _, _, _, z⟩
    exact z
end Dl

set_option Elab.async false
set_option linter.all false
set_option maxRecDepth 100000
set_option maxHeartbeats 4000000
/-! The data layer: readings computed by simp. -/
namespace Dl
open PySem PySem.Spec PyProof.Rows L2
@[simp] theorem gs_0 (x : Option D) (r : DSt) : gs (x :: r) 0 = x := rfl
@[simp] theorem gs_s (x : Option D) (r : DSt) (n : Nat) : gs (x :: r) (n + 1) = gs r n := rfl
@[simp] theorem ss_0 (x : Option D) (r : DSt) (d : D) : ss (x :: r) 0 d = some d :: r := rfl
@[simp] theorem ss_s (x : Option D) (r : DSt) (n : Nat) (d : D) : ss (x :: r) (n + 1) d = x :: ss r n d := rfl
@[simp] theorem ws_0 (x : Option D) (r : DSt) : ws (x :: r) 0 = none :: r := rfl
@[simp] theorem ws_s (x : Option D) (r : DSt) (n : Nat) : ws (x :: r) (n + 1) = x :: ws r n := rfl
@[simp] theorem wsAll_n (δ : DSt) : wsAll δ [] = δ := rfl
@[simp] theorem wsAll_c (δ : DSt) (v : Nat) (vs : List Nat) : wsAll δ (v :: vs) = ws (wsAll δ vs) v := rfl
@[simp] theorem retD_rt (K : PySem.W.Frag) (QD : DK) (d : D) (G : GH) : (retD K QD).rt d G = ∃ G2, Ent K G G2 ∧ QD d G2 := rfl
@[simp] theorem retD_nx (K : PySem.W.Frag) (QD : DK) (δ : DSt) (G : GH) : (retD K QD).nx δ G = ∃ G2, Ent K G G2 ∧ QD dN G2 := rfl
@[simp] theorem excD_ (K : PySem.W.Frag) (ED : XD) (C : Addr) (fs : List (Str × D)) (δ : DSt) (G : GH) : excD K ED C fs δ G = ∃ G2, Ent K G G2 ∧ ED C fs G2 := rfl
@[simp] theorem s_dVar (i : Nat) (δ : DSt) (G : GH) (Q : DK) : dVar i δ G Q = (match gs δ i with
  | some d => Q d G
  | none => False) := rfl
@[simp] theorem s_dC (d : D) (z0 : DSt) (G : GH) (Q : DK) : dC d z0 G Q = (Q d G) := rfl
@[simp] theorem s_dOp (r : RD2) (ta tb : TDE) (δ : DSt) (G : GH) (Q : DK) : dOp r ta tb δ G Q = (ta δ G fun x G1 => tb δ G1 fun y G2 => r x y G2 Q) := rfl
@[simp] theorem s_dTest (t : TDE) (δ : DSt) (G : GH) (Q : Bool → GH → Prop) : dTest t δ G Q = (t δ G fun d G1 => match d with
  | .at (.bl b) => Q b G1
  | _ => False) := rfl
@[simp] theorem s_dChain (r r' : RD2) (ta tb tc : TDE) (δ : DSt) (G : GH) (Q : DK) : dChain r r' ta tb tc δ G Q = (ta δ G fun x G1 => tb δ G1 fun y G2 => r x y G2 fun z G3 => match z with
  | .at (.bl k) => (k = true → tc δ G3 fun w G4 => r' y w G4 Q) ∧ (k = false → Q (dB false) G3)
  | _ => False) := rfl
@[simp] theorem s_dI2 (C : Int → Int → Prop) (g : Int → Int → V) (x : D) (y : D) (G : GH) (Q : DK) : dI2 C g x y G Q = (match x, y with
  | .at (.int i), .at (.int j) => C i j ∧ Q (.at (g i j)) G
  | _, _ => False) := rfl
@[simp] theorem s_dI0 (g : Int → Int → V) (x : D) (y : D) (G : GH) (Q : DK) : dI0 g x y G Q = (match x, y with
  | .at (.int i), .at (.int j) => Q (.at (g i j)) G
  | _, _ => False) := rfl
@[simp] theorem s_dAdd (x : D) (y : D) (G : GH) (Q : DK) : dAdd  x y G Q = (match x, y with
  | .at (.int i), .at (.int j) => Q (dI (i + j)) G
  | .at (.str i), .at (.str j) => i.length + j.length ≤ zL ∧ Q (dS (i ++ j)) G
  | .tup xs, .tup ys => xs.length + ys.length ≤ zL ∧ Q (.tup (xs ++ ys)) G
  | .at (.ref p), .at (.ref q) => ∃ xs ys, G p = some (.lst xs) ∧ G q = some (.lst ys) ∧ xs.length + ys.length ≤ zL ∧ ∀ r, G r = none → Q (dR r) (gu G r (.lst (xs ++ ys)))
  | _, _ => False) := rfl
@[simp] theorem s_dMul (x : D) (y : D) (G : GH) (Q : DK) : dMul  x y G Q = (match x, y with
  | .at (.int i), .at (.int j) => CMul i j ∧ Q (dI (i * j)) G
  | .at (.ref p), .at (.int n) => ∃ xs, G p = some (.lst xs) ∧ 0 ≤ n ∧ n ≤ 1000 ∧ xs.length ≤ 1000 ∧ ∀ r, G r = none → Q (dR r) (gu G r (.lst (List.replicate n.toNat xs).flatten))
  | _, _ => False) := rfl
@[simp] theorem s_dEqF (f : Bool → Bool) (x : D) (y : D) (G : GH) (Q : DK) : dEqF f x y G Q = (match x, y with
  | .at (.int i), .at (.int j) => Q (dB (f (decide (i = j)))) G
  | .at (.str i), .at (.str j) => Q (dB (f (decide (i = j)))) G
  | .at (.bl i), .at (.bl j) => Q (dB (f (decide (i = j)))) G
  | x, y => ∃ a b, DPy G x a ∧ DPy G y b ∧ shp a = true ∧ shp b = true ∧ Q (dB (f (PyData.eqv a b))) G) := rfl
@[simp] theorem s_dIsF (f : Bool → Bool) (x : D) (y : D) (G : GH) (Q : DK) : dIsF f x y G Q = (match y with
  | .at .non => Q (dB (f (isN x))) G
  | _ => False) := rfl
@[simp] theorem s_dAnd (t u : TDT) (δ : DSt) (G : GH) (Q : Bool → GH → Prop) : dAnd t u δ G Q = (t δ G fun c G1 => (c = true → u δ G1 Q) ∧ (c = false → Q false G1)) := rfl
@[simp] theorem s_dOr (t u : TDT) (δ : DSt) (G : GH) (Q : Bool → GH → Prop) : dOr t u δ G Q = (t δ G fun c G1 => (c = true → Q true G1) ∧ (c = false → u δ G1 Q)) := rfl
@[simp] theorem s_dNot (t : TDT) (δ : DSt) (G : GH) (Q : Bool → GH → Prop) : dNot t δ G Q = (t δ G fun c G1 => Q (!c) G1) := rfl
@[simp] theorem s_dAndV (t u : TDE) (δ : DSt) (G : GH) (Q : DK) : dAndV t u δ G Q = (t δ G fun d G1 => match d with
  | .at (.bl c) => (c = true → u δ G1 Q) ∧ (c = false → Q (dB false) G1)
  | _ => False) := rfl
@[simp] theorem s_dOrV (t u : TDE) (δ : DSt) (G : GH) (Q : DK) : dOrV t u δ G Q = (t δ G fun d G1 => match d with
  | .at (.bl c) => (c = true → Q (dB true) G1) ∧ (c = false → u δ G1 Q)
  | _ => False) := rfl
@[simp] theorem s_dNotV (t : TDE) (δ : DSt) (G : GH) (Q : DK) : dNotV t δ G Q = (t δ G fun d G1 => match d with
  | .at (.bl c) => Q (dB (!c)) G1
  | _ => False) := rfl
@[simp] theorem s_dIfE (t : TDT) (ta tb : TDE) (δ : DSt) (G : GH) (Q : DK) : dIfE t ta tb δ G Q = (t δ G fun c G1 => (c = true → ta δ G1 Q) ∧ (c = false → tb δ G1 Q)) := rfl
@[simp] theorem s_dNil (z0 : DSt) (G : GH) (Q : List D → GH → Prop) : dNil  z0 G Q = (Q [] G) := rfl
@[simp] theorem s_dCons (ta : TDE) (tr : TDA) (δ : DSt) (G : GH) (Q : List D → GH → Prop) : dCons ta tr δ G Q = (ta δ G fun x G1 => tr δ G1 fun xs G2 => Q (x :: xs) G2) := rfl
@[simp] theorem s_dTup (t : TDA) (δ : DSt) (G : GH) (Q : DK) : dTup t δ G Q = (t δ G fun xs G1 => xs.length ≤ zL ∧ Q (.tup xs) G1) := rfl
@[simp] theorem s_dLst (t : TDA) (δ : DSt) (G : GH) (Q : DK) : dLst t δ G Q = (t δ G fun xs G1 => xs.length ≤ zL ∧ ∀ p, G1 p = none → Q (dR p) (gu G1 p (.lst xs))) := rfl
@[simp] theorem s_dDictN (z0 : DSt) (G : GH) (Q : DK) : dDictN  z0 G Q = (∀ p, G p = none → Q (dR p) (gu G p (.dct []))) := rfl
@[simp] theorem s_dIx (x : D) (y : D) (G : GH) (Q : DK) : dIx  x y G Q = (match x, y with
  | .tup xs, .at (.int i) => ∃ d, atI xs i = some d ∧ Q d G
  | .frl xs, .at (.int i) => ∃ d, atI xs i = some d ∧ Q d G
  | .at (.ref p), .at (.int i) => ∃ xs d, G p = some (.lst xs) ∧ atI xs i = some d ∧ Q d G
  | .at (.str z), .at (.int i) => z.length ≤ zL ∧ ∃ c, atI z.cps.toList i = some c ∧ Q (dS ⟨#[c]⟩) G
  | _, _ => False) := rfl
@[simp] theorem s_dGetD (x : D) (y : D) (G : GH) (Q : DK) : dGetD  x y G Q = (match x with
  | .at (.ref p) => ∃ kvs k d, G p = some (.dct kvs) ∧ keyOf y = some k ∧ valD kvs k = some d ∧ Q d G
  | _ => False) := rfl
@[simp] theorem s_dNoPart (z0 : DSt) (G : GH) (Q : Option Int → GH → Prop) : dNoPart  z0 G Q = (Q none G) := rfl
@[simp] theorem s_dPart (t : TDE) (δ : DSt) (G : GH) (Q : Option Int → GH → Prop) : dPart t δ G Q = (t δ G fun d G1 => match d with
  | .at (.int i) => Q (some i) G1
  | _ => False) := rfl
@[simp] theorem s_dSl (te : TDE) (tl th : TDO) (δ : DSt) (G : GH) (Q : DK) : dSl te tl th δ G Q = (te δ G fun x G1 => tl δ G1 fun l G2 => th δ G2 fun u G3 => match x with
  | .tup xs => Q (.tup (cutD xs l u)) G3
  | .at (.ref p) => ∃ xs, G3 p = some (.lst xs) ∧ ∀ r, G3 r = none → Q (dR r) (gu G3 r (.lst (cutD xs l u)))
  | .at (.str z) => z.length ≤ zL ∧ Q (dS (cutS z l u)) G3
  | _ => False) := rfl
@[simp] theorem s_gN (i : Nat) (d : D) (δ : DSt) (G : GH) (Q : DSt → GH → Prop) : gN i d δ G Q = (Q (ss δ i d) G) := rfl
@[simp] theorem s_gE (ds : List D) (δ : DSt) (G : GH) (Q : DSt → GH → Prop) : gE  ds δ G Q = (ds = [] ∧ Q δ G) := rfl
@[simp] theorem s_gC (t : TDG) (u : TDGs) (ds : List D) (δ : DSt) (G : GH) (Q : DSt → GH → Prop) : gC t u ds δ G Q = (match ds with
  | d :: r => t d δ G fun δ1 G1 => u r δ1 G1 Q
  | [] => False) := rfl
@[simp] theorem s_gT (n : Nat) (t : TDGs) (d : D) (δ : DSt) (G : GH) (Q : DSt → GH → Prop) : gT n t d δ G Q = (match d with
  | .tup ds => ds.length = n ∧ t ds δ G Q
  | _ => False) := rfl
@[simp] theorem s_dSet (o : D) (i : D) (d : D) (G : GH) (Q : GH → Prop) : dSet  o i d G Q = (match o with
  | .at (.ref p) => (∃ xs n j, G p = some (.lst xs) ∧ i = dI n ∧ ixN xs.length n = some j ∧ Q (gu G p (.lst (xs.set j d)))) ∨
      ∃ kvs k, G p = some (.dct kvs) ∧ keyOf i = some k ∧ kvs.length < zL ∧ Q (gu G p (.dct (putD kvs k d)))
  | _ => False) := rfl
@[simp] theorem s_gS (to ti : TDE) (d : D) (δ : DSt) (G : GH) (Q : DSt → GH → Prop) : gS to ti d δ G Q = (to δ G fun o G1 => ti δ G1 fun i G2 => dSet o i d G2 fun G3 => Q δ G3) := rfl
@[simp] theorem s_dNext (E : DEnds) (δ : DSt) (G : GH) : dNext  E δ G = (E.nx δ G) := rfl
@[simp] theorem s_dSeq (t u : TDS) (E : DEnds) (δ : DSt) (G : GH) : dSeq t u E δ G = (t { E with nx := u E } δ G) := rfl
@[simp] theorem s_dBrk (E : DEnds) (δ : DSt) (G : GH) : dBrk  E δ G = (E.bk δ G) := rfl
@[simp] theorem s_dCnt (E : DEnds) (δ : DSt) (G : GH) : dCnt  E δ G = (E.ct δ G) := rfl
@[simp] theorem s_dDrop (te : TDE) (E : DEnds) (δ : DSt) (G : GH) : dDrop te E δ G = (te δ G fun _ G1 => E.nx δ G1) := rfl
@[simp] theorem s_dRet (te : TDE) (E : DEnds) (δ : DSt) (G : GH) : dRet te E δ G = (te δ G E.rt) := rfl
@[simp] theorem s_dRetN (E : DEnds) (z1 : DSt) (G : GH) : dRetN  E z1 G = (E.rt dN G) := rfl
@[simp] theorem s_dIfS (c : TDT) (t u : TDS) (E : DEnds) (δ : DSt) (G : GH) : dIfS c t u E δ G = (c δ G fun b G1 => (b = true → t E δ G1) ∧ (b = false → u E δ G1)) := rfl
@[simp] theorem s_dAsg (te : TDE) (g : TDG) (E : DEnds) (δ : DSt) (G : GH) : dAsg te g E δ G = (te δ G fun d G1 => g d δ G1 E.nx) := rfl
@[simp] theorem s_dPar (i j : Nat) (ta : TDA) (E : DEnds) (δ : DSt) (G : GH) : dPar i j ta E δ G = (ta δ G fun ds G1 => match ds with
  | [a, b] => E.nx (ss (ss δ i a) j b) G1
  | _ => False) := rfl
@[simp] theorem s_dAug (i : Nat) (te : TDE) (g : Int → Int → Int) (E : DEnds) (δ : DSt) (G : GH) : dAug i te g E δ G = (match gs δ i with
  | some (.at (.int a)) => te δ G fun d G1 => match d with
    | .at (.int b) => E.nx (ss δ i (dI (g a b))) G1
    | _ => False
  | _ => False) := rfl
@[simp] theorem s_dYes (z0 : DSt) (G : GH) (Q : Bool → GH → Prop) : dYes  z0 G Q = (Q true G) := rfl
@[simp] theorem s_iSeqD (te : TDE) (δ : DSt) (G : GH) (R : List D → (GH → Prop) → GH → Prop) : iSeqD te δ G R = (te δ G fun d G1 => match d with
  | .tup xs => R xs (fun _ => True) G1
  | _ => False) := rfl
@[simp] theorem s_iLstD (te : TDE) (δ : DSt) (G : GH) (R : List D → (GH → Prop) → GH → Prop) : iLstD te δ G R = (te δ G fun d G1 => match d with
  | .at (.ref p) => ∃ xs, G1 p = some (.lst xs) ∧ R xs (fun G => G p = some (.lst xs)) G1
  | .frl xs => R xs (fun _ => True) G1
  | _ => False) := rfl
@[simp] theorem s_iRng1D (ta : TDA) (δ : DSt) (G : GH) (R : List D → (GH → Prop) → GH → Prop) : iRng1D ta δ G R = (ta δ G fun ds G1 => match ds with
  | [.at (.int j)] => (j < 2 ^ 62 ∧ -(2 ^ 62) ≤ j) ∧ R (rgD 0 j.toNat) (fun _ => True) G1
  | _ => False) := rfl
@[simp] theorem s_iRng2D (ta : TDA) (δ : DSt) (G : GH) (R : List D → (GH → Prop) → GH → Prop) : iRng2D ta δ G R = (ta δ G fun ds G1 => match ds with
  | [.at (.int i), .at (.int j)] => (-(2 ^ 62) ≤ i ∧ i < 2 ^ 62 ∧ -(2 ^ 62) ≤ j ∧ j < 2 ^ 62) ∧ R (rgD i (j - i).toNat) (fun _ => True) G1
  | _ => False) := rfl
@[simp] theorem s_iStrD (te : TDE) (δ : DSt) (G : GH) (R : List D → (GH → Prop) → GH → Prop) : iStrD te δ G R = (te δ G fun d G1 => match d with
  | .at (.str z) => R (chD z) (fun _ => True) G1
  | _ => False) := rfl
@[simp] theorem s_iEnTD (ta : TDA) (δ : DSt) (G : GH) (R : List D → (GH → Prop) → GH → Prop) : iEnTD ta δ G R = (ta δ G fun ds G1 => match ds with
  | [.tup xs] => R (enD xs) (fun _ => True) G1
  | _ => False) := rfl
@[simp] theorem s_iEnLD (ta : TDA) (δ : DSt) (G : GH) (R : List D → (GH → Prop) → GH → Prop) : iEnLD ta δ G R = (ta δ G fun ds G1 => match ds with
  | [.at (.ref p)] => ∃ xs, G1 p = some (.lst xs) ∧ R (enD xs) (fun G => G p = some (.lst xs)) G1
  | _ => False) := rfl
@[simp] theorem s_dCall (dsp : DSp) (WD : XDW) (t : TDA) (δ : DSt) (G : GH) (Q : DK) : dCall dsp WD t δ G Q = (t δ G fun ds G1 => dsp ds G1 Q fun C fs G2 => WD C fs δ G2) := rfl
@[simp] theorem s_dBi (r : RDC) (t : TDA) (δ : DSt) (G : GH) (Q : DK) : dBi r t δ G Q = (t δ G fun ds G1 => r ds G1 Q) := rfl
@[simp] theorem s_dBm0 (T : String) (r : RDM) (to : TDE) (δ : DSt) (G : GH) (Q : DK) : dBm0 T r to δ G Q = (to δ G fun x G1 => tyD T x G1 ∧ r x [] G1 Q) := rfl
@[simp] theorem s_dBm (T : String) (r : RDM) (to : TDE) (t : TDA) (δ : DSt) (G : GH) (Q : DK) : dBm T r to t δ G Q = (to δ G fun x G1 => tyD T x G1 ∧ t δ G1 fun ds G2 => r x ds G2 Q) := rfl
@[simp] theorem s_dRaise (WD : XDW) (C : Addr) (fs : List (Str × D)) (z0 : DEnds) (δ : DSt) (G : GH) : dRaise WD C fs z0 δ G = (WD C fs δ G) := rfl
@[simp] theorem s_dLen (ds : List D) (G : GH) (Q : DK) : dLen  ds G Q = (match ds with
  | [.tup xs] => Q (dI (xs.length : Nat)) G
  | [.frl xs] => Q (dI (xs.length : Nat)) G
  | [.at (.str z)] => z.length ≤ zL ∧ Q (dI (z.length : Nat)) G
  | [.at (.ref p)] => ∃ n : Nat, szMO (G p) = some n ∧ Q (dI n) G
  | _ => False) := rfl
@[simp] theorem s_dList (ds : List D) (G : GH) (Q : DK) : dList  ds G Q = (match ds with
  | [.tup xs] => ∀ p, G p = none → Q (dR p) (gu G p (.lst xs))
  | [.at (.ref a)] => ∃ xs, itMO (G a) = some xs ∧ ∀ p, G p = none → Q (dR p) (gu G p (.lst xs))
  | _ => False) := rfl
@[simp] theorem s_dTuple (ds : List D) (G : GH) (Q : DK) : dTuple  ds G Q = (match ds with
  | [.tup xs] => Q (.tup xs) G
  | [.at (.ref a)] => ∃ xs, G a = some (.lst xs) ∧ Q (.tup xs) G
  | _ => False) := rfl
@[simp] theorem s_dInt (ds : List D) (G : GH) (Q : DK) : dInt  ds G Q = (match ds with
  | [.at (.int i)] => Q (dI i) G
  | [.at (.bl b)] => Q (dI (if b then 1 else 0)) G
  | _ => False) := rfl
@[simp] theorem s_dDict (ds : List D) (G : GH) (Q : DK) : dDict  ds G Q = (match ds with
  | [.at (.ref a)] => ∃ kvs, G a = some (.dct kvs) ∧ ∀ p, G p = none → Q (dR p) (gu G p (.dct kvs))
  | _ => False) := rfl
@[simp] theorem s_dAllF (f : List Bool → Bool) (ds : List D) (G : GH) (Q : DK) : dAllF f ds G Q = (match ds with
  | [.at (.ref a)] => ∃ xs bs, G a = some (.lst xs) ∧ blsD xs = some bs ∧ Q (dB (f bs)) G
  | _ => False) := rfl
@[simp] theorem s_dTwo (f : Int → Int → Int) (ds : List D) (G : GH) (Q : DK) : dTwo f ds G Q = (match ds with
  | [.at (.int i), .at (.int j)] => Q (dI (f i j)) G
  | _ => False) := rfl
@[simp] theorem s_dIsi (bs : List Ki) (te : TDE) (δ : DSt) (G : GH) (Q : DK) : dIsi bs te δ G Q = (te δ G fun d G1 => ∃ k, kiD d G1 = some k ∧ Q (dB (bs.any fun b => k.is b)) G1) := rfl
@[simp] theorem s_dAppend (x : D) (ds : List D) (G : GH) (Q : DK) : dAppend  x ds G Q = (match x, ds with
  | .at (.ref a), [d] => ∃ xs, G a = some (.lst xs) ∧ xs.length < zL ∧ Q dN (gu G a (.lst (xs ++ [d])))
  | _, _ => False) := rfl
@[simp] theorem s_dNeg (te : TDE) (δ : DSt) (G : GH) (Q : DK) : dNeg te δ G Q = (te δ G fun d G1 => match d with
  | .at (.int i) => Q (dI (-i)) G1
  | _ => False) := rfl
@[simp] theorem s_dInF_t (f : Bool → Bool) (x : D) (ys : List D) (G : GH) (Q : DK) : dInF f x (.tup ys) G Q = (flatD x = true ∧ ys.all flatD = true ∧ Q (dB (f (inD x ys))) G) := rfl
@[simp] theorem s_dInF_r (f : Bool → Bool) (x : D) (p : Addr) (G : GH) (Q : DK) : dInF f x (.at (.ref p)) G Q = ((∃ ys, G p = some (.lst ys) ∧ flatD x = true ∧ ys.all flatD = true ∧ Q (dB (f (inD x ys))) G) ∨ ∃ kvs k, G p = some (.dct kvs) ∧ keyOf x = some k ∧ Q (dB (f (valD kvs k).isSome)) G) := rfl
@[simp] theorem s_dInF_s (f : Bool → Bool) (x : D) (z : Str) (G : GH) (Q : DK) : dInF f x (.at (.str z)) G Q = (∃ c, x = dS ⟨#[c]⟩ ∧ Q (dB (f (decide (c ∈ z.cps.toList)))) G) := rfl
@[simp] theorem gu_at (G : GH) (a : Addr) (m : MO) : gu G a m a = some m := gu_same
@[simp] theorem gu_gu_ (G : GH) (a : Addr) (m n : MO) : gu (gu G a m) a n = gu G a n := gu_gu
@[simp] theorem zL_val : zL = 16777216 := rfl
theorem char_inj {a b : Char} (h : a.toNat = b.toNat) : a = b := by
  apply Char.ext
  exact UInt32.toNat_inj.mp h
@[simp] theorem ofS_inj (a b : String) : (Str.ofString a = Str.ofString b) ↔ a = b := by
  constructor
  · intro h
    rw [Str.ofString_eq_toList, Str.ofString_eq_toList] at h
    have h1 : (a.toList.map Char.toNat).toArray = (b.toList.map Char.toNat).toArray := by injection h
    have h2 : a.toList.map Char.toNat = b.toList.map Char.toNat := by simpa using h1
    have h3 : a.toList = b.toList := List.map_inj_right (fun _ _ => char_inj) |>.mp h2
    exact String.toList_inj.mp h3
  · rintro rfl; rfl
theorem d_fld {C : Addr} {f : Str} {i : Nat} {δ : DSt} {G : GH} {Q : DK} {a dx : Addr} {fs : List (Str × D)} {d : D} (h : gs δ i = some (dR a)) (hG : G a = some (.ins C dx fs)) (hl : lookS f fs = some d) (q : Q d G) : dFld C f (dVar i) δ G Q := by
  unfold dFld
  rw [s_dVar, h]
  exact ⟨dx, fs, d, hG, hl, q⟩
theorem g_fld {C : Addr} {f : Str} {i : Nat} {δ : DSt} {G : GH} {Q : DSt → GH → Prop} {a dx : Addr} {fs : List (Str × D)} {d : D} (h : gs δ i = some (dR a)) (hG : G a = some (.ins C dx fs)) (hl : fs.length < 1000) (q : Q δ (gu G a (.ins C dx (putS f d fs)))) : gF C f (dVar i) d δ G Q := by
  unfold gF
  rw [s_dVar, h]
  exact ⟨dx, fs, hG, hl, q⟩
theorem d_faug {C : Addr} {f : Str} {i : Nat} {δ : DSt} {G : GH} {E : DEnds} {g : Int → Int → Int} {a dx : Addr} {fs : List (Str × D)} {x j : Int} (h : gs δ i = some (dR a)) (hG : G a = some (.ins C dx fs)) (hx : lookS f fs = some (dI x)) (hl : fs.length < 1000) (q : E.nx δ (gu G a (.ins C dx (putS f (dI (g x j)) fs)))) :
    dFAug C f (dVar i) (dC (dI j)) g E δ G := by
  unfold dFAug
  rw [s_dVar, h]
  exact ⟨dx, fs, x, hG, hx, dx, fs, hG, hl, q⟩
theorem d_meth {K : PySem.W.Frag} {C : Addr} {m : Str} {dsp : DSp} {WD : XDW} {i : Nat} {t : TDA} {δ : DSt} {G : GH} {Q : DK} {a : Addr} (h : gs δ i = some (dR a)) (hi : IsIns K C m G a) (q : t δ G fun ds G2 => dsp (dR a :: ds) G2 Q fun C fs G3 => WD C fs δ G3) : dMeth K C m dsp WD (dVar i) t δ G Q := by
  unfold dMeth
  rw [s_dVar, h]
  exact ⟨hi, q⟩
theorem dlc_pure {K : PySem.W.Frag} {ti : TDI} {g : TDG} {tt : TDT} {te : TDE} {vs : List Nat} {δ : DSt} {G : GH} {Q : DK} (xs : List D) (f : D → D) (c : D → Bool)
    (hti : ∀ R : List D → (GH → Prop) → GH → Prop, (∀ stay : GH → Prop, (∀ p acc, G p = none → stay (gu G p (.lst acc))) → R xs stay G) → ti δ G R) (hz : xs.length ≤ zL)
    (step : ∀ p, G p = none → ∀ x ∈ xs, ∀ (acc : List D) (Qt : D → GH → Prop) (Qf : GH → Prop), (c x = true → Qt (f x) (gu G p (.lst acc))) → (c x = false → Qf (gu G p (.lst acc))) → g x (wsAll δ vs) (gu G p (.lst acc)) fun δ1 G2 => tt δ1 G2 fun b G3 => (b = true → te δ1 G3 Qt) ∧ (b = false → Qf G3))
    (h : ∀ p, G p = none → Q (dR p) (gu G p (.lst ((xs.filter c).map f)))) : dLc K ti g tt te vs δ G Q :=
  hti _ fun stay hs p hp => lc_pure f c hz (fun acc => hs p acc hp) (step p hp) (h p hp)
theorem filt_all {α : Type} (xs : List α) : xs.filter (fun _ => true) = xs := by simp
theorem ent_new {K : PySem.W.Frag} {G : GH} {p : Addr} {m : MO} (h : G p = none) : Ent K (gu G p m) G := Ent.le (Le.new h)
end Dl

set_option Elab.async false
set_option linter.all false
set_option maxRecDepth 100000
set_option maxHeartbeats 4000000
/-! The data layer: more of it: sorted of a tuple, is of truths, three names at once. -/
namespace Dl
open PySem PySem.Spec PyProof.Rows L2
/-! ### sorted(a tuple of ints) -/
def rSortedTI (K : PySem.W.Frag) : List V → Hp → VK → Prop := fun vs H Q => ∃ (a : Addr) (ns : List Int), vs = [V.ref a] ∧ SqT K H a (ns.map V.int) ∧ ∀ (ns' : List Int) (p : Addr), ns'.Perm ns → ns'.Pairwise (· ≤ ·) → H p = none → Q (.ref p) (upd H p (.lst (ns'.map V.int)))
section
variable {X : Cx} {B : Hp} {K : PySem.W.Frag}
theorem cr_sortedTI : CallR X (.builtin "sorted") (rSortedTI X.K) := by
  intro pins s σ H vs us Q I r h
  obtain ⟨a, ns, rfl, hs, q⟩ := h
  obtain ⟨its, rv, ⟨o, ho, hc, n, hd⟩, hz⟩ := I.tuple hs
  rw [Vals.ref1 r]
  have hi := rv.ints
  have hzl : its.length ≤ sizeLine := by rw [← rv.length]; exact hz
  refine Calls.call_function_entry kind_sorted plain_sorted entry_sorted (args_sorted1 _) ?_
  unfold Builtin.«sorted»
  refine wpAny_bind (m := checkCount "sorted" 1 1 _) (wpAny_pure ?_)
  refine wpAny_bind (wpAny_collect_seq a (.inr rfl) ho hc hd (fun h1 hk => ?_) (by simpa using hzl))
  have I1 : Inv X pins σ H { s with heap := h1, toks := s.toks } := I.kept hk
  show wpAny _ _ (newList its >>= _) _ _ _
  refine wpAny_bind (wpAny_newList ?_ hzl)
  have new : (h1.push (seqObj "list" its.toArray 0)).get? h1.objs.size = some (seqObj "list" its.toArray 0) := Heap.get?_push_size _ rfl
  refine wpAny_bind (wpAny_holding (wpAny_call_entry slot_list_sort ⟨_, new, rfl⟩ entry_list_sort
    (SrtO.list_sort_ord (s := { s with heap := h1.push (seqObj "list" its.toArray 0) }) SrtO.swo_int new hzl (fun h2 => SrtO.ints_sortable hi h2) fun out o1 o2 => ⟨_, rfl, ?_⟩) (args_list_sort _)))
  obtain ⟨k1, k2, k3⟩ := SrtO.ints_out hi o1 o2
  obtain ⟨ep, last⟩ := PyProof.Rows.sortedHeap_at (vs := its) (out := out.toArray) new
  have few : ((out.map SrtO.iv).map V.int).length ≤ sizeLine := by
    rw [List.length_map, k2.length_eq]
    simpa using hz
  refine wpAny_pure ⟨_, rfl, .ref h1.objs.size, upd H h1.objs.size (.lst ((out.map SrtO.iv).map V.int)), I1.laid (t' := s.toks) (fun b u e => ?_) (Nat.le_refl _) ⟨few, out, ep, vals_of_ints k1, last⟩, rfl, q _ _ k2 k3 (I1.hok.fresh (Nat.le_refl _))⟩
  have lt : b < h1.objs.size := Heap.lt_size e
  rw [PyProof.Rows.sortedHeap_old (Nat.ne_of_lt lt) (by rw [size_push']; exact Nat.lt_succ_of_lt lt)]
  exact Heap.get?_push_of_some _ e
def dSortTI : RDC := fun ds G Q => match ds with
  | [.tup xs] => ∃ ns : List Int, xs = ns.map dI ∧ ∀ (ys : List Int) p, ys.Perm ns → ys.Pairwise (· ≤ ·) → G p = none → Q (dR p) (gu G p (.lst (ys.map dI)))
  | _ => False
theorem rps_ints {H : Hp} {ns : List Int} {vs : List V} (r : Rps K H (ns.map dI) vs) : vs = ns.map V.int := by
  have e : (ns.map dI) = (ns.map V.int).map D.at := by rw [List.map_map]; rfl
  rw [e] at r
  exact r.toAt
theorem lc_sortTI : LC K (rSortedTI K) dSortTI := fun H G ds vs Q Q' g r h k => by
  unfold dSortTI at h
  split at h
  · obtain ⟨ns, rfl, h⟩ := h
    obtain ⟨v, rfl, r1⟩ := r.one
    obtain ⟨a, us, rfl, hs, r2⟩ := r1.tup_
    rw [rps_ints r2] at hs
    refine ⟨a, ns, rfl, hs, fun ys p hp hs hn => new_lst g (rps_map V.int ys) hn (fun q hq => h ys q hp hs hq) k⟩
  · exact h.elim
/-! ### is True, is not False -/
def dIsBF (f : Bool → Bool) : RD2 := fun x y G Q => match x, y with
  | .at (.bl a), .at (.bl b) => Q (dB (f (decide (a = b)))) G
  | _, _ => False
abbrev dIsB : RD2 := dIsBF id
abbrev dIsntB : RD2 := dIsBF not
theorem lr_isB : LR K rIsB dIsB := fun H G x y v u Q Q' hg rx ry h k => by
  unfold dIsB dIsBF at h
  split at h
  · exact ⟨_, _, rx.at_, ry.at_, k _ H _ G (Tp.refl H) hg (.at _) h⟩
  · exact h.elim
theorem lr_isntB : LR K rNotB dIsntB := fun H G x y v u Q Q' hg rx ry h k => by
  unfold dIsntB dIsBF at h
  split at h
  · exact ⟨_, _, rx.at_, ry.at_, k _ H _ G (Tp.refl H) hg (.at _) h⟩
  · exact h.elim
/-! ### a, b, c = x, y, z -/
def dPar3 (i j l : Nat) (ta : TDA) : TDS := fun E δ G => ta δ G fun ds G1 => match ds with
  | [a, b, c] => E.nx (ss (ss (ss δ i a) j b) l c) G1
  | _ => False
theorem ds_par3 {i j l : Nat} {x y z : Str} {a b c : Expr} {ta : TDA} {px py pz pt pos : Pos} {kt k2 pt2} (hc : X.calm = true) (hN : X.N.Nodup) (hi : X.N[i]? = some x) (hj : X.N[j]? = some y) (hl : X.N[l]? = some z) (hij : i ≠ j) (hil : i ≠ l) (hjl : j ≠ l)
    (hx : X.env.scope.names.lookup x = some .local) (hy : X.env.scope.names.lookup y = some .local) (hz : X.env.scope.names.lookup z = some .local) (ha : DA X B [a, b, c] ta)
    (hw : swappedStores [.Tuple [.Name x px, .Name y py, .Name z pz] kt pt] (.Tuple [a, b, c] k2 pt2) X.env = pure (some [x, y, z]))
    (hs : swapsWithSole [.Tuple [.Name x px, .Name y py, .Name z pz] kt pt] (.Tuple [a, b, c] k2 pt2) pos.line X.env = pure false := by rfl) :
    DS X B (.Assign [.Tuple [.Name x px, .Name y py, .Name z pz] kt pt] (.Tuple [a, b, c] k2 pt2) pos) (dPar3 i j l ta) := by
  obtain ⟨t1, p1, l1⟩ := ha
  refine ⟨_, ps_par3 hc hN hi hj hl hij hil hjl hx hy hz p1 hw hs, fun σ H δ G E D' R h k => l1 σ H δ G _ _ R h fun vs H1 ds G1 t1 g1 r1 h1 => ?_⟩
  split at h1
  · rename_i a b c
    cases r1 with
    | cons ra r1 =>
      obtain ⟨v, w, rfl, rb, rc⟩ := r1.two
      have R1 := R.next t1 g1
      exact ⟨_, v, w, rfl, k.nx _ G1 _ H1 t1 ⟨((R1.s.set ra i).set rb j).set rc l, g1, R1.b⟩ h1⟩
  · exact h1.elim
end
theorem dlc_w {K : PySem.W.Frag} {ti : TDI} {g : TDG} {tt : TDT} {te : TDE} {vs : List Nat} {δ : DSt} {G : GH} {Q : DK} (h : ti δ G fun xs stay G1 => ∀ p, G1 p = none → ∃ W : Nat → GH → Prop, W 0 (gu G1 p (.lst [])) ∧ (∀ i G, W i G → stay G) ∧
    (∀ i x G, xs[i]? = some x → W i G → g x (wsAll δ vs) G fun δ1 G2 => tt δ1 G2 fun b G3 => (b = true → te δ1 G3 fun d G4 => ∃ acc, G4 p = some (.lst acc) ∧ acc.length < zL ∧ ∃ G5, Ent K (gu G4 p (.lst (acc ++ [d]))) G5 ∧ W (i + 1) G5) ∧ (b = false → ∃ G5, Ent K G3 G5 ∧ W (i + 1) G5)) ∧
    ∀ G, W xs.length G → Q (dR p) G) : dLc K ti g tt te vs δ G Q := h
theorem dfor_w {K : PySem.W.Frag} {ti : TDI} {g : TDG} {tb : TDS} {E : DEnds} {δ : DSt} {G : GH} (h : ti δ G fun xs stay G1 => ∃ W : Nat → DSt → GH → Prop, W 0 δ G1 ∧ (∀ i δ G, W i δ G → stay G) ∧
    (∀ i x δ G, xs[i]? = some x → W i δ G → g x δ G fun δ1 G2 => tb { E with nx := fun δ' G' => ∃ G3, Ent K G' G3 ∧ W (i + 1) δ' G3, ct := fun δ' G' => ∃ G3, Ent K G' G3 ∧ W (i + 1) δ' G3, bk := E.nx } δ1 G2) ∧ ∀ δ G, W xs.length δ G → E.nx δ G) : dFor K ti g tb E δ G := h
@[simp] theorem s_dIsBF (f : Bool → Bool) (a b : Bool) (G : GH) (Q : DK) : dIsBF f (dB a) (dB b) G Q = Q (dB (f (decide (a = b)))) G := rfl
@[simp] theorem s_dPar3 (i j l : Nat) (ta : TDA) (E : DEnds) (δ : DSt) (G : GH) : dPar3 i j l ta E δ G = ta δ G fun ds G1 => match ds with
  | [a, b, c] => E.nx (ss (ss (ss δ i a) j b) l c) G1
  | _ => False := rfl
@[simp] theorem s_dSortTI (xs : List D) (G : GH) (Q : DK) : dSortTI [.tup xs] G Q = ∃ ns : List Int, xs = ns.map dI ∧ ∀ (ys : List Int) p, ys.Perm ns → ys.Pairwise (· ≤ ·) → G p = none → Q (dR p) (gu G p (.lst (ys.map dI))) := rfl
end Dl

set_option Elab.async false
set_option linter.all false
set_option maxRecDepth 100000
set_option maxHeartbeats 4000000
/-! The data layer: dicts whose keys are tuples, however deep. -/
namespace Dl
open PySem PySem.Spec PyProof.Rows L2
abbrev NKey := NestedKey
mutual
def kD : NKey → D
  | .none => dN
  | .num i => dI i
  | .text x => dS x
  | .tup ks => .tup (kDs ks)
def kDs : List NKey → List D
  | [] => []
  | k :: ks => kD k :: kDs ks
end
theorem kDs_map : ∀ ks : List NKey, kDs ks = ks.map kD
  | [] => rfl
  | k :: ks => by rw [kDs, kDs_map ks]; rfl
mutual
/-- no texts in it -/
def numK : NKey → Bool
  | .none => true
  | .num _ => true
  | .text _ => false
  | .tup ks => numKs ks
def numKs : List NKey → Bool
  | [] => true
  | k :: ks => numK k && numKs ks
end
mutual
theorem hash_free (w w' : World) : ∀ k : NKey, numK k = true → k.hash w = k.hash w'
  | .none, _ => rfl
  | .num _, _ => rfl
  | .text _, h => by cases h
  | .tup ks, h => by rw [NestedKey.hash, NestedKey.hash, hashes_free w w' ks h]
theorem hashes_free (w w' : World) : ∀ ks : List NKey, numKs ks = true → NestedKey.hashes w ks = NestedKey.hashes w' ks
  | [], _ => rfl
  | k :: ks, h => by
    have h : (numK k && numKs ks) = true := h
    rw [Bool.and_eq_true] at h
    rw [NestedKey.hashes, NestedKey.hashes, hash_free w w' k h.1, hashes_free w w' ks h.2]
end
/-- a key of a dict: a tuple, not too deep, of numbers -/
def okK (k : NKey) : Bool := numK k && decide (k.depth ≤ 8) && (match k with | .tup _ => true | _ => false)
section
variable {X : Cx} {pins : List (Addr × Obj)} {σ : L2.St} {H : Hp} {s : Shared}
mutual
theorem nk_is (I : Inv X pins σ H s) : ∀ (k : NKey) {v : V} {u : Value}, Rp X.K H (kD k) v → RelV v u → NestedIs s.heap k u
  | .none, v, u, r, q => by
    rw [r.at_] at q
    cases (show u = Value.none from q)
    exact .none
  | .num i, v, u, r, q => by
    rw [r.at_] at q
    obtain ⟨t, rfl⟩ := q
    exact .int i t
  | .text x, v, u, r, q => by
    rw [r.at_] at q
    obtain ⟨t, rfl⟩ := q
    exact .text x t
  | .tup ks, v, u, r, q => by
    obtain ⟨a, vs, rfl, hs, rr⟩ := Rp.tup_ r
    cases (show u = Value.ref a from q)
    obtain ⟨its, rv, ⟨o, ho, hc, n, hd⟩, _⟩ := I.tuple hs
    exact .tup ho hc hd (by simpa using nks_are I ks rr rv)
theorem nks_are (I : Inv X pins σ H s) : ∀ (ks : List NKey) {vs : List V} {us : List Value}, Rps X.K H (kDs ks) vs → Vals vs us → NestedAll s.heap ks us
  | [], vs, us, r, q => by
    cases r
    cases q
    exact .nil
  | k :: ks, vs, us, r, q => by
    cases r with
    | cons h r =>
      cases q with
      | cons g q => exact .cons (nk_is I k h g) (nks_are I ks r q)
end
end
theorem okK_ {k : NKey} (h : okK k = true) : numK k = true ∧ k.depth ≤ 8 ∧ ∃ ks, k = .tup ks := by
  unfold okK at h
  rw [Bool.and_eq_true, Bool.and_eq_true, decide_eq_true_eq] at h
  obtain ⟨⟨h1, h2⟩, h3⟩ := h
  cases k with
  | tup ks => exact ⟨h1, h2, ks, rfl⟩
  | _ => cases h3
/-- the dict's object, known -/
def NdO (d : Addr) (ob : Obj) : HO := .ext fun h => h.get? d = some ob
/-- an entry: its key, where the key stands, its value -/
abbrev Ent3 := NKey × Addr × Value
/-- what a dict's object holds -/
structure NdP (K : PySem.W.Frag) (H : Hp) (d : Addr) (ob : Obj) (kvs : List (NKey × D)) (xs : List Ent3) (es : Array DictEntry) (ep : Nat) : Prop where
  sys : (d == sysModules) = false
  len : kvs.length ≤ sizeLine
  ex : ob.ExactDict
  dat : ob.data = .dict es ep
  ent : ∀ (P : Program) (w : World), es.toList = xs.map (entryOfKey (nestedKind P w))
  rel : Paired (fun (p : NKey × D) (x : Ent3) => p.1 = x.1 ∧ okK x.1 = true ∧ Rp K H (kD x.1) (.ref x.2.1) ∧ ∃ v, Rp K H p.2 v ∧ RelV v x.2.2) kvs xs
  nd : (kvs.map (·.1)).Nodup
def NdV (K : PySem.W.Frag) (H : Hp) (d : Addr) (kvs : List (NKey × D)) : Prop := ∃ ob xs es ep, H d = some (NdO d ob) ∧ NdP K H d ob kvs xs es ep
theorem NdP.mono {K : PySem.W.Frag} {H H' : Hp} {d : Addr} {ob : Obj} {kvs : List (NKey × D)} {xs : List Ent3} {es : Array DictEntry} {ep : Nat} (n : NdP K H d ob kvs xs es ep) (t : Tp H H') : NdP K H' d ob kvs xs es ep :=
  ⟨n.sys, n.len, n.ex, n.dat, n.ent, Paired.imp n.rel fun _ _ h => ⟨h.1, h.2.1, h.2.2.1.mono t, let ⟨v, h1, h2⟩ := h.2.2.2; ⟨v, h1.mono t, h2⟩⟩, n.nd⟩
/-- a dict as it stands -/
def dNd (K : PySem.W.Frag) (d : Addr) (kvs : List (NKey × D)) : MO := .abs fun H o hid => hid = [] ∧ ∃ ob xs es ep, o = NdO d ob ∧ NdP K H d ob kvs xs es ep
/-- a dict that is walked: its object is known -/
def dNdL (K : PySem.W.Frag) (d : Addr) (ob : Obj) (kvs : List (NKey × D)) : MO := .abs fun H o hid => hid = [] ∧ ∃ xs es ep, o = NdO d ob ∧ NdP K H d ob kvs xs es ep
section
variable {K : PySem.W.Frag} {H : Hp} {G : GH} {d : Addr} {kvs : List (NKey × D)} {ob : Obj} {xs : List Ent3} {es : Array DictEntry} {ep : Nat}
theorem rel_nd (n : NdP K H d ob kvs xs es ep) : RelMO K H [] (dNd K d kvs) (NdO d ob) :=
  ⟨⟨rfl, _, _, _, _, rfl, n⟩, fun H' t _ => ⟨rfl, _, _, _, _, rfl, n.mono t⟩, trivial⟩
theorem rel_ndL (n : NdP K H d ob kvs xs es ep) : RelMO K H [] (dNdL K d ob kvs) (NdO d ob) :=
  ⟨⟨rfl, _, _, _, rfl, n⟩, fun H' t _ => ⟨rfl, _, _, _, rfl, n.mono t⟩, trivial⟩
theorem RelG.nd (g : RelG K G H) (h : G d = some (dNd K d kvs)) : ∃ ob xs es ep, H d = some (NdO d ob) ∧ NdP K H d ob kvs xs es ep := by
  obtain ⟨hid, R⟩ := g
  obtain ⟨o, ho, ⟨_, ob, xs, es, ep, rfl, n⟩, _⟩ := R.ob d _ h
  exact ⟨ob, xs, es, ep, ho, n⟩
theorem RelG.ndL (g : RelG K G H) (h : G d = some (dNdL K d ob kvs)) : ∃ xs es ep, H d = some (NdO d ob) ∧ NdP K H d ob kvs xs es ep := by
  obtain ⟨hid, R⟩ := g
  obtain ⟨o, ho, ⟨_, xs, es, ep, rfl, n⟩, _⟩ := R.ob d _ h
  exact ⟨xs, es, ep, ho, n⟩
/-- another telling of what stands there -/
theorem RelG.retell (g : RelG K G H) {m m' : MO} {o : HO} (h : G d = some m) (ho : H d = some o) (hm : ∀ hid, RelMO K H hid m o → hid = []) (hm' : RelMO K H [] m' o) : RelG K (gu G d m') H := by
  obtain ⟨hid, R⟩ := g
  obtain ⟨o', ho', r⟩ := R.ob d _ h
  rw [ho] at ho'
  cases ho'
  have e := hm _ r
  refine ⟨hid, ⟨fun p n q => ?_, fun p n q b hb => ?_, fun p q n n' e1 e2 b hb hb' => ?_⟩⟩
  · by_cases z : p = d
    · subst z
      rw [gu_same] at q
      cases q
      exact ⟨o, ho, by rw [e]; exact hm'⟩
    · rw [gu_ne z] at q
      exact R.ob p n q
  · by_cases z : p = d
    · subst z
      rw [e] at hb
      cases hb
    · rw [gu_ne z] at q
      obtain ⟨h1, h2⟩ := R.hd p n q b hb
      refine ⟨?_, h2⟩
      rw [gu_ne (fun z => by rw [z, h] at h1; cases h1)]
      exact h1
  · by_cases z : p = d
    · subst z
      rw [e] at hb
      cases hb
    · by_cases z' : q = d
      · subst z'
        rw [e] at hb'
        cases hb'
      · rw [gu_ne z] at e1
        rw [gu_ne z'] at e2
        exact R.dj p q n n' e1 e2 b hb hb'
theorem nd_hid {hid : List Addr} {o : HO} (r : RelMO K H hid (dNd K d kvs) o) : hid = [] := r.1.1
theorem ndL_hid {hid : List Addr} {o : HO} (r : RelMO K H hid (dNdL K d ob kvs) o) : hid = [] := r.1.1
/-- known while it is walked -/
theorem RelG.lock (g : RelG K G H) (h : G d = some (dNd K d kvs)) : ∃ ob, RelG K (gu G d (dNdL K d ob kvs)) H := by
  obtain ⟨ob, xs, es, ep, ho, n⟩ := g.nd h
  exact ⟨ob, g.retell h ho (fun _ r => nd_hid r) (rel_ndL n)⟩
theorem Ent.unlock (h : G d = some (dNdL K d ob kvs)) : Ent K G (gu G d (dNd K d kvs)) := fun H g => by
  obtain ⟨xs, es, ep, ho, n⟩ := g.ndL h
  exact g.retell h ho (fun _ r => ndL_hid r) (rel_nd n)
end
end Dl

set_option Elab.async false
set_option linter.all false
set_option maxRecDepth 100000
set_option maxHeartbeats 4000000
/-! The data layer: dicts with tuple keys: reads and writes. -/
namespace Dl
open PySem PySem.Spec PyProof.Rows L2
theorem pair_len {α β : Type} {F : α → β → Prop} : ∀ {l : List α} {m : List β}, Paired F l m → l.length = m.length
  | _, _, .nil => rfl
  | _, _, .cons _ t => by rw [List.length_cons, List.length_cons, pair_len t]
theorem pair_of {α β : Type} {F : α → β → Prop} : ∀ {l : List α} {m : List β}, Paired F l m → ∀ y ∈ m, ∃ x ∈ l, F x y
  | _, _, .nil, y, h => by cases h
  | _, _, .cons r t, y, h => by
    rcases List.mem_cons.mp h with rfl | h
    · exact ⟨_, List.mem_cons_self, r⟩
    · obtain ⟨x, hx, e⟩ := pair_of t y h
      exact ⟨x, List.mem_cons_of_mem _ hx, e⟩
abbrev NdF (K : PySem.W.Frag) (H : Hp) : (NKey × D) → Ent3 → Prop := fun p x => p.1 = x.1 ∧ okK x.1 = true ∧ Rp K H (kD x.1) (.ref x.2.1) ∧ ∃ v, Rp K H p.2 v ∧ RelV v x.2.2
section
variable {K : PySem.W.Frag} {H : Hp}
theorem nd_find {kvs : List (NKey × D)} {xs : List Ent3} (r : Paired (NdF K H) kvs xs) (k : NKey) : (∃ dd p v, valD kvs k = some dd ∧ atKey xs k = some p ∧ Rp K H dd v ∧ RelV v p.2) ∨ (valD kvs k = none ∧ atKey xs k = none) := by
  induction r with
  | nil => exact .inr ⟨rfl, rfl⟩
  | @cons p x l m h t ih =>
    obtain ⟨h1, _, _, v, h3, h4⟩ := h
    by_cases e : x.1 = k
    · refine .inl ⟨p.2, x.2, v, ?_, ?_, h3, h4⟩
      · unfold valD
        rw [List.find?_cons_of_pos (by simpa [h1] using e)]
        rfl
      · unfold atKey
        rw [List.find?_cons_of_pos (by simpa using e)]
        rfl
    · have e1 : valD (p :: l) k = valD l k := by
        unfold valD
        rw [List.find?_cons_of_neg (by simpa [h1] using e)]
      have e2 : atKey (x :: m) k = atKey m k := by
        unfold atKey
        rw [List.find?_cons_of_neg (by simpa using e)]
      rw [e1, e2]
      exact ih
theorem nd_any {kvs : List (NKey × D)} {xs : List Ent3} (r : Paired (NdF K H) kvs xs) (k : NKey) : (kvs.any fun kv => decide (kv.1 = k)) = (atKey xs k).isSome := by
  induction r with
  | nil => rfl
  | @cons p x l m h t ih =>
    rw [List.any_cons, ih]
    by_cases e : x.1 = k
    · have e2 : (atKey (x :: m) k).isSome = true := by
        unfold atKey
        rw [List.find?_cons_of_pos (by simpa using e)]
        rfl
      rw [e2]
      simp [h.1, e]
    · have e2 : atKey (x :: m) k = atKey m k := by
        unfold atKey
        rw [List.find?_cons_of_neg (by simpa using e)]
      rw [e2]
      simp [h.1, e]
theorem nd_put {kvs : List (NKey × D)} {xs : List Ent3} (r : Paired (NdF K H) kvs xs) {k : NKey} {a : Addr} {dd : D} {v : V} {u : Value} (ok : okK k = true) (rk : Rp K H (kD k) (.ref a)) (rd : Rp K H dd v) (rv : RelV v u) :
    Paired (NdF K H) (putD kvs k dd) (storedH xs k a u) := by
  unfold putD storedH
  rw [nd_any r k]
  by_cases h : (atKey xs k).isSome = true
  · rw [if_pos h, if_pos h]
    clear h
    induction r with
    | nil => exact .nil
    | @cons p x l m h t ih =>
      obtain ⟨h1, h2, h3, h4⟩ := h
      refine .cons ?_ ih
      by_cases e : x.1 = k
      · have e' : p.1 = k := h1.trans e
        show NdF K H (if p.1 = k then (p.1, dd) else p) (putAt k u x)
        rw [if_pos e', putAt, if_pos e]
        exact ⟨h1, h2, h3, v, rd, rv⟩
      · have e' : ¬ p.1 = k := fun z => e (h1.symm.trans z)
        show NdF K H (if p.1 = k then (p.1, dd) else p) (putAt k u x)
        rw [if_neg e', putAt, if_neg e]
        exact ⟨h1, h2, h3, h4⟩
  · rw [if_neg h, if_neg h]
    clear h
    induction r with
    | nil => exact .cons ⟨rfl, ok, rk, v, rd, rv⟩ .nil
    | cons h t ih => exact .cons h ih
theorem put_nd {kvs : List (NKey × D)} {k : NKey} {dd : D} (h : (kvs.map (·.1)).Nodup) : ((putD kvs k dd).map (·.1)).Nodup := by
  unfold putD
  split
  · rw [List.map_map]
    have : (kvs.map ((·.1) ∘ fun kv => if kv.1 = k then (kv.1, dd) else kv)) = kvs.map (·.1) := by
      refine List.map_congr_left fun x _ => ?_
      simp only [Function.comp_apply]
      split <;> rfl
    rw [this]
    exact h
  · rename_i hn
    rw [List.map_append, List.nodup_append]
    refine ⟨h, by simp, fun x hx y hy => ?_⟩
    have hy : y = k := by simpa using hy
    rintro rfl
    subst hy
    apply hn
    obtain ⟨p, hp, e⟩ := List.mem_map.mp hx
    rw [List.any_eq_true]
    exact ⟨p, hp, by simpa using e⟩
theorem put_len {kvs : List (NKey × D)} {k : NKey} {dd : D} : (putD kvs k dd).length ≤ kvs.length + 1 := by
  unfold putD
  split
  · rw [List.length_map]; omega
  · simp
end
section
variable {X : Cx} {pins : List (Addr × Obj)} {σ : L2.St} {H : Hp} {s : Shared} {d : Addr} {kvs : List (NKey × D)} {ob : Obj} {xs : List Ent3} {es : Array DictEntry} {ep : Nat}
theorem nd_obj (I : Inv X pins σ H s) (hd : H d = some (NdO d ob)) : s.heap.get? d = some ob := (I.hok d _ hd).1
theorem nd_keyed (I : Inv X pins σ H s) (hd : H d = some (NdO d ob)) (n : NdP X.K H d ob kvs xs es ep) : s.heap.DictOfH (nestedKind X.prog X.w) d xs := by
  have rel := n.rel
  refine ⟨ob, es, ep, nd_obj I hd, n.ex, n.dat, n.ent _ _, fun x hx => ?_, ?_⟩
  · obtain ⟨p, _, h1, h2, h3, _⟩ := pair_of rel x hx
    exact ⟨nk_is I x.1 h3 rfl, (okK_ h2).2.1⟩
  · have e : xs.map (·.1) = kvs.map (·.1) := by
      clear hd n I
      induction rel with
      | nil => rfl
      | cons h t ih => rw [List.map_cons, List.map_cons, ih, h.1]
    rw [e]
    exact n.nd
theorem okK_ref {k : NKey} (ok : okK k = true) {v : V} (r : Rp X.K H (kD k) v) : ∃ a, v = .ref a := by
  obtain ⟨_, _, ks, rfl⟩ := okK_ ok
  obtain ⟨a, _, e, _⟩ := Rp.tup_ r
  exact ⟨a, e⟩
theorem nd_room (hu : X.A.units + 64 < cLine) : (nestedKind X.prog X.w).room X.A.in1 := by
  show X.A.in1.units + 8 < cLine
  show X.A.units + 1 + 8 < cLine
  omega
/-- another object in the place of the dict's -/
theorem nd_write {kvs' : List (NKey × D)} {xs' : List Ent3} {h' : Heap} {tk : Nat} (I : Inv X pins σ H s) (hd : H d = some (NdO d ob)) (n : NdP X.K H d ob kvs xs es ep) (hm : h'.DictOfH (nestedKind X.prog X.w) d xs') (hs : Heap.SameBut d s.heap h') (hl : kvs'.length ≤ sizeLine)
    (rel : Paired (NdF X.K H) kvs' xs') (nd : (kvs'.map (·.1)).Nodup) : ∃ ob' es' ep', Inv X pins σ (upd H d (NdO d ob')) { s with heap := h', toks := tk } ∧ NdP X.K H d ob' kvs' xs' es' ep' := by
  obtain ⟨ob', es', ep', g1, g2, g3, g4, _, _⟩ := hm
  refine ⟨ob', es', ep', ?_, ⟨n.sys, hl, g2, g3, fun P w => ?_, rel, nd⟩⟩
  · refine I.write (x := d) (e := d) (o := NdO d ob') (by rw [hd]; exact True.intro) (.inl rfl) (fun b q hb z => (hs.2 b hb).trans z) ⟨_, g1⟩ ⟨g1, ⟨_, g1⟩, fun h1 h2 p q => q _ p⟩
  · rw [g4]
    refine List.map_congr_left fun x hx => ?_
    obtain ⟨p, _, _, h2, _⟩ := pair_of rel x hx
    unfold entryOfKey
    show (⟨x.1.hash X.w, _, _⟩ : DictEntry) = ⟨x.1.hash w, _, _⟩
    rw [hash_free X.w w x.1 (okK_ h2).1]
end

/-! ### in, d[k], d.get(k, x) -/
/-- the dict at d, walked or not -/
def IsNd (K : PySem.W.Frag) (G : GH) (d : Addr) (kvs : List (NKey × D)) : Prop := G d = some (dNd K d kvs) ∨ ∃ ob, G d = some (dNdL K d ob kvs)
theorem IsNd.v {K : PySem.W.Frag} {G : GH} {H : Hp} {d : Addr} {kvs : List (NKey × D)} (g : RelG K G H) (h : IsNd K G d kvs) : NdV K H d kvs := by
  rcases h with h | ⟨ob, h⟩
  · exact g.nd h
  · obtain ⟨xs, es, ep, h1, h2⟩ := g.ndL h
    exact ⟨ob, xs, es, ep, h1, h2⟩
theorem IsNd.le {K : PySem.W.Frag} {G G' : GH} {d : Addr} {kvs : List (NKey × D)} (h : IsNd K G d kvs) (l : Le G G') : IsNd K G' d kvs := by
  rcases h with h | ⟨ob, h⟩
  · exact .inl (l _ _ h)
  · exact .inr ⟨ob, l _ _ h⟩
def rInN (K : PySem.W.Frag) (f : Bool → Bool) : R2 := fun x y H Q => ∃ d kvs k, y = .ref d ∧ NdV K H d kvs ∧ okK k = true ∧ Rp K H (kD k) x ∧ Q (.bl (f (valD kvs k).isSome)) H
def dInNF (K : PySem.W.Frag) (f : Bool → Bool) : RD2 := fun x y G Q => match y with
  | .at (.ref d) => ∃ kvs k, IsNd K G d kvs ∧ okK k = true ∧ x = kD k ∧ Q (dB (f (valD kvs k).isSome)) G
  | _ => False
section
variable {X : Cx} {B : Hp} {K : PySem.W.Frag}
theorem op_inN (hu : X.A.units + 64 < cLine) : OpR X (compareOp .In) (rInN X.K id) := by
  intro pins s σ H x y v u Q I rx ry h
  obtain ⟨d, kvs, k, rfl, ⟨ob, xs, es, ep, hd, n⟩, ok, rk, q⟩ := h
  obtain ⟨a, rfl⟩ := okK_ref ok rk
  cases rx
  cases ry
  refine wpAny_in_heap (nd_room hu) ⟨nk_is I k rk rfl, (okK_ ok).2.1⟩ n.sys (nd_keyed I hd n) ?_
  have e : (atKey xs k).isSome = (valD kvs k).isSome := by
    rcases nd_find n.rel k with ⟨dd, p, v, h1, h2, _⟩ | ⟨h1, h2⟩
    · rw [h1, h2]; rfl
    · rw [h1, h2]; rfl
  rw [e]
  exact ⟨.bl _, H, I.tok _, rfl, q⟩
theorem op_notinN (hu : X.A.units + 64 < cLine) : OpR X (compareOp .NotIn) (rInN X.K not) := by
  intro pins s σ H x y v u Q I rx ry h
  obtain ⟨d, kvs, k, rfl, ⟨ob, xs, es, ep, hd, n⟩, ok, rk, q⟩ := h
  obtain ⟨a, rfl⟩ := okK_ref ok rk
  cases rx
  cases ry
  refine wpAny_notIn_heap (nd_room hu) ⟨nk_is I k rk rfl, (okK_ ok).2.1⟩ n.sys (nd_keyed I hd n) ?_
  have e : (atKey xs k).isSome = (valD kvs k).isSome := by
    rcases nd_find n.rel k with ⟨dd, p, v, h1, h2, _⟩ | ⟨h1, h2⟩
    · rw [h1, h2]; rfl
    · rw [h1, h2]; rfl
  rw [e]
  exact ⟨.bl _, H, I.tok _, rfl, q⟩
theorem lr_inNF {f : Bool → Bool} : LR K (rInN K f) (dInNF K f) := fun H G x y v u Q Q' hg rx ry h k => by
  unfold dInNF at h
  split at h
  · rename_i d
    obtain ⟨kvs, q, hn, ok, rfl, h⟩ := h
    exact ⟨d, kvs, q, ry.at_, hn.v hg, ok, rx, k _ H _ G (Tp.refl H) hg (.at _) h⟩
  · exact h.elim
/-- d[k] -/
def dGetN (K : PySem.W.Frag) : RD2 := fun x y G Q => match x with
  | .at (.ref d) => ∃ kvs k dd, IsNd K G d kvs ∧ okK k = true ∧ y = kD k ∧ valD kvs k = some dd ∧ Q dd G
  | _ => False
def tGetN (K : PySem.W.Frag) (td ty : TE) : TE := fun σ H Q => td σ H fun x H1 => ty σ H1 fun y H2 => ∃ d kvs k dd, x = .ref d ∧ NdV K H2 d kvs ∧ okK k = true ∧ Rp K H2 (kD k) y ∧ valD kvs k = some dd ∧ ∀ v, Rp K H2 dd v → Q v H2
theorem pe_getN {a b : Expr} {pos : Pos} {td ty : TE} (hu : X.A.units + 64 < cLine) (ha : PE X a td) (hb : PE X b ty) (hs : NoSl b) : PE X (.Subscript a b pos) (tGetN X.K td ty) := by
  refine ⟨fun pins s σ H Q I h => subD_of PySem.F.slot_dict_getitem.lookup hs (thn (ha.run pins s σ H _ I h) fun u s1 ⟨x, H1, I1, rx, q1⟩ => thn (hb.run pins s1 σ H1 _ I1 q1) fun iv s2 ⟨y, H2, I2, ry, q2⟩ => ?_)⟩
  obtain ⟨d, kvs, k, dd, rfl, ⟨ob, xs, es, ep, hd, n⟩, ok, rk, e, q⟩ := q2
  obtain ⟨b, rfl⟩ := okK_ref ok rk
  cases ry
  cases (show u = Value.ref d from rx)
  have dk := nd_keyed I2 hd n
  refine ⟨dk.typeIs, ?_⟩
  rcases nd_find n.rel k with ⟨dd', p, v, h1, h2, h3, h4⟩ | ⟨h1, _⟩
  · rw [e] at h1
    cases h1
    exact wpAny_getItem_heap (nd_room hu) ⟨nk_is I2 k rk rfl, (okK_ ok).2.1⟩ dk h2 ⟨v, H2, I2.tok _, h4, q v h3⟩
  · rw [e] at h1; cases h1
theorem de_getN {a b : Expr} {pos : Pos} {ta tb : TDE} (hu : X.A.units + 64 < cLine) (ha : DE X B a ta) (hb : DE X B b tb) (hs : NoSl b) : DE X B (.Subscript a b pos) (dOp (dGetN X.K) ta tb) := by
  obtain ⟨te1, p1, l1⟩ := ha
  obtain ⟨te2, p2, l2⟩ := hb
  refine ⟨_, pe_getN hu p1 p2 hs, fun σ H δ G Q Q' R h k => l1 σ H δ G _ _ R h fun x H1 d1 G1 t1 g1 r1 h1 => l2 σ H1 δ G1 _ _ (R.next t1 g1) h1 fun y H2 d2 G2 t2 g2 r2 h2 => ?_⟩
  unfold dGetN at h2
  split at h2
  · rename_i p
    obtain ⟨kvs, q, dd, hn, ok, rfl, e, h2⟩ := h2
    exact ⟨p, kvs, q, dd, r1.at_, hn.v g2, ok, r2, e, fun v rv => k v H2 dd G2 (t1.trans t2) g2 rv h2⟩
  · exact h2.elim
/-- d.get(k, x) -/
def dGet2N (K : PySem.W.Frag) (to : TDE) (t : TDA) : TDE := fun δ G Q => to δ G fun o G1 => match o with
  | .at (.ref d) => (∃ kvs, IsNd K G1 d kvs) ∧ t δ G1 fun ds G2 => match ds with
    | [y, z] => ∃ kvs k, IsNd K G2 d kvs ∧ okK k = true ∧ y = kD k ∧ Q ((valD kvs k).getD z) G2
    | _ => False
  | _ => False
def rGet2N (K : PySem.W.Frag) : V → List V → Hp → VK → Prop := fun x xs H Q => ∃ d kvs k y z dz, x = .ref d ∧ xs = [y, z] ∧ NdV K H d kvs ∧ okK k = true ∧ Rp K H (kD k) y ∧ Rp K H dz z ∧ ∀ v, Rp K H ((valD kvs k).getD dz) v → Q v H
theorem mt_get2N (hu : X.A.units + 64 < cLine) : MtR X "dict.get" (rGet2N X.K) := by
  intro pins s σ H x xs v us Q I rx rxs h
  obtain ⟨d, kvs, k, y, z, dz, rfl, rfl, ⟨ob, xs, es, ep, hd, n⟩, ok, rk, rz, q⟩ := h
  obtain ⟨b, rfl⟩ := okK_ref ok rk
  obtain ⟨u1, u2, rfl, r1, r2⟩ := vals2 rxs
  cases rx
  cases r1
  have dk := nd_keyed I hd n
  refine call_meetsIn F.slot_dict_get dk.typeIs F.entry_dict_get (F.args_dict_get_3 _ _ _) (meetsH_dict_get_default _ d b n.sys u2) ⟨nd_room hu, k, xs, ⟨nk_is I k rk rfl, (okK_ ok).2.1⟩, dk, ?_⟩
  rcases nd_find n.rel k with ⟨dd', p, v, h1, h2, h3, h4⟩ | ⟨h1, h2⟩
  · rw [h1] at q
    rw [h2]
    exact ⟨v, H, I.tok _, h4, q v h3⟩
  · rw [h1] at q
    rw [h2]
    exact ⟨z, H, I.tok _, r2, q z rz⟩
def tGet2N (K : PySem.W.Frag) (to : TE) (t : TA) : TE := fun σ H Q => to σ H fun x H1 => (∃ d kvs, x = .ref d ∧ NdV K H1 d kvs) ∧ t σ H1 fun vs H2 => rGet2N K x vs H2 Q
theorem pe_get2N {o a b : Expr} {apos cpos : Pos} {to : TE} {t : TA} (hu : X.A.units + 64 < cLine) (ho : PE X o to) (ha : PA X [a, b] t) (hbase : attributeBase o "get" X.env (eval o X.env) = eval o X.env := by rfl)
    (hfew : ((backTo cpos (starEach [a, b] X.env)).all (fun x => !x.1) && (backToKw cpos (keywordEach [] X.env)).all (fun x => x.1.isSome) && decide (([a, b] : List Expr).length + ([] : List Keyword).length + (if ([] : List Keyword).isEmpty then 0 else 1) < 30)) = true := by rfl)
    (hline : (apos.endLine == cpos.line) = true := by rfl) (hs : starEach [a, b] X.env = (false, eval a X.env) :: starEach [b] X.env := by rfl) (hplain : (backTo cpos (starEach [b] X.env)).any (·.1) = false := by rfl) :
    PE X (.Call (.Attribute o "get" apos) [a, b] [] cpos) (tGet2N X.K to t) := by
  refine ⟨fun pins s σ H Q I h => wpAny_Call_method_late hbase hfew hline rfl (thn (ho.run pins s σ H _ I h) fun v s1 ⟨x, H1, I1, r1, q1⟩ => ?_)⟩
  obtain ⟨⟨d, kvs, rfl, ob, xs, es, ep, hd, n⟩, q1⟩ := q1
  cases (show v = Value.ref d from r1)
  have dk := nd_keyed I1 hd n
  refine ⟨"dict", "dict.get", F.plainAttrs_dict, F.slot_dict_get, F.type_dict_get, dk.typeIs, fun a e => ?_, ?_⟩
  · cases e
    exact ⟨ob, nd_obj I1 hd, n.ex.2.1⟩
  · have hA := ha.run cpos pins s1 σ H1 _ I1 q1
    rw [hs] at hA ⊢
    refine Calls.callWith_builtin (by show (false || (backTo cpos (starEach [b] X.env)).any (·.1)) = false; rw [hplain] <;> rfl) (Calls.evalArgs_plain (thn hA fun us s2 ⟨vs, H2, I2, r2, q2⟩ => ?_))
    exact mt_get2N hu pins s2 σ H2 (.ref d) vs _ us Q I2 rfl r2 q2
end
end Dl

set_option Elab.async false
set_option linter.all false
set_option maxRecDepth 100000
set_option maxHeartbeats 4000000
/-! The data layer: dicts with tuple keys: stored into, made, walked. -/
namespace Dl
open PySem PySem.Spec PyProof.Rows L2
section
variable {X : Cx} {B : Hp} {K : PySem.W.Frag}
theorem de_get2N {o a b : Expr} {apos cpos : Pos} {to : TDE} {t : TDA} (hu : X.A.units + 64 < cLine) (ho : DE X B o to) (ha : DA X B [a, b] t) (hbase : attributeBase o "get" X.env (eval o X.env) = eval o X.env := by rfl)
    (hfew : ((backTo cpos (starEach [a, b] X.env)).all (fun x => !x.1) && (backToKw cpos (keywordEach [] X.env)).all (fun x => x.1.isSome) && decide (([a, b] : List Expr).length + ([] : List Keyword).length + (if ([] : List Keyword).isEmpty then 0 else 1) < 30)) = true := by rfl)
    (hline : (apos.endLine == cpos.line) = true := by rfl) (hs : starEach [a, b] X.env = (false, eval a X.env) :: starEach [b] X.env := by rfl) (hplain : (backTo cpos (starEach [b] X.env)).any (·.1) = false := by rfl) :
    DE X B (.Call (.Attribute o "get" apos) [a, b] [] cpos) (dGet2N X.K to t) := by
  obtain ⟨t1, p1, l1⟩ := ho
  obtain ⟨t2, p2, l2⟩ := ha
  refine ⟨_, pe_get2N hu p1 p2 hbase hfew hline hs hplain, fun σ H δ G Q Q' R h k => l1 σ H δ G _ _ R h fun x H1 d1 G1 t1 g1 r1 h1 => ?_⟩
  split at h1
  · rename_i d
    obtain ⟨⟨kvs, hn⟩, h1⟩ := h1
    refine ⟨⟨d, kvs, r1.at_, hn.v g1⟩, l2 σ H1 δ G1 _ _ (R.next t1 g1) h1 fun vs H2 ds G2 t2 g2 r2 h2 => ?_⟩
    split at h2
    · rename_i y z
      obtain ⟨kvs', q, hn2, ok, rfl, h2⟩ := h2
      obtain ⟨v1, v2, rfl, ry, rz⟩ := r2.two
      exact ⟨d, kvs', q, v1, v2, z, r1.at_, rfl, hn2.v g2, ok, ry, rz, fun v rv => k v H2 _ G2 (t1.trans t2) g2 rv h2⟩
    · exact h2.elim
  · exact h1.elim
/-! ### d[k] = v -/
def rSetN (K : PySem.W.Frag) : TSet := fun o i v H Q => ∃ d kvs k dd, o = .ref d ∧ NdV K H d kvs ∧ okK k = true ∧ Rp K H (kD k) i ∧ Rp K H dd v ∧ kvs.length < zL ∧
  ∀ ob xs es ep, NdP K H d ob (putD kvs k dd) xs es ep → Q (upd H d (NdO d ob))
theorem set_nd (hu : X.A.units + 64 < cLine) : PSet X (rSetN X.K) := by
  intro pins s σ H o i v ov iv u Q I r1 r2 r3 h
  obtain ⟨d, kvs, k, dd, rfl, ⟨ob, xs, es, ep, hd, n⟩, ok, rk, rd, hl, q⟩ := h
  obtain ⟨b, rfl⟩ := okK_ref ok rk
  cases r1
  cases r2
  have hz : xs.length ≤ sizeLine := by rw [← pair_len n.rel]; exact n.len
  refine wpAny_setItem_heap (hsz := hz) (nd_room hu) ⟨nk_is I k rk rfl, (okK_ ok).2.1⟩ (nd_keyed I hd n) fun h' hm hs => ?_
  obtain ⟨ob', es', ep', I', n'⟩ := nd_write (kvs' := putD kvs k dd) (tk := s.toks + (nestedKind X.prog X.w).draws k) I hd n hm hs
    (by have := put_len (kvs := kvs) (k := k) (dd := dd); rw [← zL_eq]; omega) (nd_put n.rel ok rk rd r3) (put_nd n.nd)
  exact ⟨_, I', q _ _ _ _ n'⟩
def dSetN (K : PySem.W.Frag) : TDSet := fun o i d G Q => match o with
  | .at (.ref p) => ∃ kvs k, G p = some (dNd K p kvs) ∧ okK k = true ∧ i = kD k ∧ kvs.length < zL ∧ Q (gu G p (dNd K p (putD kvs k d)))
  | _ => False
theorem lsetN : LSet K (rSetN K) (dSetN K) := fun H G o i d vo vi vd Q Q' g ro ri rd h k => by
  unfold dSetN at h
  split at h
  · rename_i p
    obtain ⟨kvs, q, e, ok, rfl, hz, h⟩ := h
    obtain ⟨ob, xs, es, ep, hd, n⟩ := g.nd e
    refine ⟨p, kvs, q, d, ro.at_, ⟨ob, xs, es, ep, hd, n⟩, ok, ri, rd, hz, fun ob' xs' es' ep' n' => ?_⟩
    have tp : Tp H (upd H p (NdO p ob')) := Tp.set hd trivial
    exact k _ _ tp (g.set (m := dNd K p (putD kvs q d)) e hd trivial (rel_nd (n'.mono tp))) h
  · exact h.elim
def gSN (K : PySem.W.Frag) (to ti : TDE) : TDG := fun d δ G Q => to δ G fun o G1 => ti δ G1 fun i G2 => dSetN K o i d G2 fun G3 => Q δ G3
theorem dg_subN {o i : Expr} {pos : Pos} {to ti : TDE} (hu : X.A.units + 64 < cLine) (ho : DE X B o to) (hi : DE X B i ti)
    (ha : ∀ v, assign (.Subscript o i pos) X.env v = (do
      let ov ← holding [v] (eval o X.env)
      let iv ← holding [v, ov] (eval i X.env)
      standAt pos
      holding [v, ov, iv] (setItem ov iv v)
      release [v, ov, iv] []) := by intro _; rfl) : DG X B (.Subscript o i pos) (gSN X.K to ti) := by
  obtain ⟨t1, p1, l1⟩ := ho
  obtain ⟨t2, p2, l2⟩ := hi
  refine ⟨_, pg_sub p1 p2 (set_nd hu) ha, fun v d σ H δ G Q Q' R r h k => ?_⟩
  refine l1 σ H δ G _ _ R h fun vo H1 do_ G1 t1 g1 ro h1 => l2 σ H1 δ G1 _ _ (R.next t1 g1) h1 fun vi H2 di G2 t2 g2 ri h2 => ?_
  exact lsetN H2 G2 do_ di d vo vi v _ _ g2 (ro.mono t2) ri ((r.mono t1).mono t2) h2 fun H3 G3 t3 g3 h3 => k δ G3 σ H3 ((t1.trans t2).trans t3) (((R.next t1 g1).next t2 g2).next t3 g3) h3
theorem ds_putN {o i e : Expr} {pos pos' : Pos} {to ti te : TDE} (hu : X.A.units + 64 < cLine) (ho : DE X B o to) (hi : DE X B i ti) (he : DE X B e te) (hs : swapsWithSole [.Subscript o i pos'] e pos.line X.env = pure false := by rfl) (hw : swappedStores [.Subscript o i pos'] e X.env = pure none := by rfl)
    (h1 : (assignEach [.Subscript o i pos'] X.env).map (·.2) = [assign (.Subscript o i pos') X.env] := by rfl)
    (ha : ∀ v, assign (.Subscript o i pos') X.env v = (do
      let ov ← holding [v] (eval o X.env)
      let iv ← holding [v, ov] (eval i X.env)
      standAt pos'
      holding [v, ov, iv] (setItem ov iv v)
      release [v, ov, iv] []) := by intro _; rfl) : DS X B (.Assign [.Subscript o i pos'] e pos) (dAsg te (gSN X.K to ti)) := ds_asg he (dg_subN hu ho hi ha) hs hw h1
/-! ### {} -/
theorem nd_new {H : Hp} {d : Addr} (hs : (d == sysModules) = false) : NdP K H d { cls := .type "dict", data := .dict #[] } [] [] #[] 0 :=
  ⟨hs, Nat.zero_le _, ⟨rfl, rfl, rfl⟩, rfl, fun _ _ => rfl, .nil, List.nodup_nil⟩
def tNewN : TE := fun _ H Q => ∀ p, H p = none → (p == sysModules) = false → Q (.ref p) (upd H p (NdO p { cls := .type "dict", data := .dict #[] }))
theorem pe_newN {pos : Pos} : PE X (.Dict [] [] pos) tNewN := ⟨fun pins s σ H Q I h =>
  wpAny_Dict_empty ⟨.ref s.heap.objs.size, _, I.laid (a := s.heap.objs.size) (o := NdO s.heap.objs.size _) (t' := s.toks) (fun _ _ q => Heap.get?_push_of_some _ q) (Nat.le_refl _)
    ⟨Heap.get?_push_size _ rfl, ⟨_, Heap.get?_push_size _ rfl⟩, fun h1 h2 p q => q _ p⟩, rfl, h _ (I.hok.fresh (Nat.le_refl _)) (beq_eq_false_iff_ne.mpr (Ne.symm (Nat.ne_of_lt I.big)))⟩⟩
def dNewN (K : PySem.W.Frag) : TDE := fun _ G Q => ∀ p, G p = none → Q (dR p) (gu G p (dNd K p []))
theorem de_newN {pos : Pos} : DE X B (.Dict [] [] pos) (dNewN X.K) := ⟨_, pe_newN, fun σ H δ G Q Q' R h k p hp hs => by
  have tp : Tp H (upd H p (NdO p { cls := .type "dict", data := .dict #[] })) := Tp.new hp
  exact k _ _ (dR p) _ tp (R.g.new (m := dNd X.K p []) hp (rel_nd (nd_new hs))) (.at _) (h p (R.g.fresh hp))⟩
/-! ### {k: v} -/
def t1N (K : PySem.W.Frag) (tk tv : TE) : TE := fun σ H Q => ∀ p, H p = none → (p == sysModules) = false → tk σ (upd H p (NdO p { cls := .type "dict", data := .dict #[] })) fun y H1 => tv σ H1 fun z H2 =>
  ∃ k dd, okK k = true ∧ Rp K H2 (kD k) y ∧ Rp K H2 dd z ∧ (∃ ob xs es ep, H2 p = some (NdO p ob) ∧ NdP K H2 p ob [] xs es ep) ∧ ∀ ob xs es ep, NdP K H2 p ob [(k, dd)] xs es ep → Q (.ref p) (upd H2 p (NdO p ob))
theorem pe_1N {a b : Expr} {pos : Pos} {tk tv : TE} (hu : X.A.units + 64 < cLine) (ha : PE X a tk) (hb : PE X b tv)
    (hshape : (evalEachOpt [some a] X.env).zip ((evalEach [b] X.env).map fun v => do let x ← v; standAt pos; pure x) = ([(eval a X.env, do let x ← eval b X.env; standAt pos; pure x)] : List (Sem Value × Sem Value)).map (fun p => (some p.1, p.2)) := by rfl) :
    PE X (.Dict [some a] [b] pos) (t1N X.K tk tv) := by
  refine ⟨fun pins s σ H Q I h => ?_⟩
  have room : (nestedKind X.prog X.w).room X.A := by
    show X.A.units + 8 < cLine
    omega
  rw [arm_eval_Dict, hshape, dictDisplay_pairs [(eval a X.env, do let x ← eval b X.env; standAt pos; pure x)] (by simp) (by simp)]
  refine wpAny_bind (wpAny_standAt (wpAny_bind (wpAny_subDictH (knd := nestedKind X.prog X.w) (Q := fun d s' => wpAny (model X.prog X.w) X.A (pure (Value.ref d)) (EP X pins σ Q) X.xe s') room (by simp) ?_)))
  have hp : H s.heap.objs.size = none := I.hok.fresh (Nat.le_refl _)
  have hs : (s.heap.objs.size == sysModules) = false := beq_eq_false_iff_ne.mpr (Ne.symm (Nat.ne_of_lt I.big))
  have I0 : Inv X pins σ (upd H s.heap.objs.size (NdO s.heap.objs.size { cls := .type "dict", data := .dict #[] })) { s with heap := s.heap.push { cls := .type "dict", data := .dict #[] } } :=
    I.laid (a := s.heap.objs.size) (o := NdO s.heap.objs.size _) (t' := s.toks) (fun _ _ q => Heap.get?_push_of_some _ q) (Nat.le_refl _) ⟨Heap.get?_push_size _ rfl, ⟨_, Heap.get?_push_size _ rfl⟩, fun h1 h2 p q => q _ p⟩
  refine evalPairs_cons (thn (ha.run pins _ σ _ _ I0 (h _ hp hs)) fun y s1 ⟨y', H1, I1, ry, q1⟩ => ?_)
  refine wpAny_bind (thn (hb.run pins s1 σ H1 _ I1 q1) fun z s2 ⟨z', H2, I2, rz, k, dd, ok, rk, rd, ⟨ob0, xs0, es0, ep0, hd, n0⟩, q2⟩ => wpAny_bind (wpAny_standAt (wpAny_pure (evalPairs_nil ?_))))
  obtain ⟨c, rfl⟩ := okK_ref ok rk
  cases ry
  have e0 : xs0 = [] := by
    have := pair_len n0.rel
    exact List.length_eq_zero_iff.mp this.symm
  subst e0
  refine ⟨[(k, c, z)], ⟨rfl, rfl, ⟨nk_is I2 k rk rfl, (okK_ ok).2.1⟩, trivial⟩, nd_keyed I2 hd n0, fun h' tk hm hsb => ?_⟩
  obtain ⟨ob', es', ep', I', n'⟩ := nd_write (kvs' := [(k, dd)]) (tk := tk) I2 hd n0 hm hsb (by show 1 ≤ sizeLine; decide) (.cons ⟨rfl, ok, rk, z', rd, rz⟩ .nil) (by simp)
  exact wpAny_pure ⟨.ref s.heap.objs.size, _, I', rfl, q2 _ _ _ _ n'⟩
def d1N (K : PySem.W.Frag) (tk tv : TDE) : TDE := fun δ G Q => ∀ p, G p = none → tk δ (gu G p (dNd K p [])) fun y G1 => tv δ G1 fun z G2 => ∃ k, okK k = true ∧ y = kD k ∧ G2 p = some (dNd K p []) ∧ Q (dR p) (gu G2 p (dNd K p [(k, z)]))
theorem de_1N {a b : Expr} {pos : Pos} {tk tv : TDE} (hu : X.A.units + 64 < cLine) (ha : DE X B a tk) (hb : DE X B b tv)
    (hshape : (evalEachOpt [some a] X.env).zip ((evalEach [b] X.env).map fun v => do let x ← v; standAt pos; pure x) = ([(eval a X.env, do let x ← eval b X.env; standAt pos; pure x)] : List (Sem Value × Sem Value)).map (fun p => (some p.1, p.2)) := by rfl) :
    DE X B (.Dict [some a] [b] pos) (d1N X.K tk tv) := by
  obtain ⟨t1, p1, l1⟩ := ha
  obtain ⟨t2, p2, l2⟩ := hb
  refine ⟨_, pe_1N hu p1 p2 hshape, fun σ H δ G Q Q' R h k p hp hs => ?_⟩
  have tp : Tp H (upd H p (NdO p { cls := .type "dict", data := .dict #[] })) := Tp.new hp
  have g0 : RelG X.K (gu G p (dNd X.K p [])) (upd H p (NdO p { cls := .type "dict", data := .dict #[] })) := R.g.new (m := dNd X.K p []) hp (rel_nd (nd_new hs))
  refine l1 σ _ δ _ _ _ (R.next tp g0) (h p (R.g.fresh hp)) fun y H1 d1 G1 t1 g1 r1 h1 => l2 σ H1 δ G1 _ _ ((R.next tp g0).next t1 g1) h1 fun z H2 d2 G2 t2 g2 r2 h2 => ?_
  obtain ⟨q, ok, rfl, hg, h2⟩ := h2
  obtain ⟨ob, xs, es, ep, hd, n⟩ := g2.nd hg
  refine ⟨q, d2, ok, r1.mono t2, r2, ⟨ob, xs, es, ep, hd, n⟩, fun ob' xs' es' ep' n' => ?_⟩
  have tp2 : Tp H2 (upd H2 p (NdO p ob')) := Tp.set hd trivial
  exact k _ _ (dR p) _ (((tp.trans t1).trans t2).trans tp2) (g2.set (m := dNd X.K p [(q, d2)]) hg hd trivial (rel_nd (n'.mono tp2))) (.at _) h2
end
end Dl

set_option Elab.async false
set_option linter.all false
set_option maxRecDepth 100000
set_option maxHeartbeats 4000000
/-! The data layer: dicts with tuple keys walked. -/
namespace Dl
open PySem PySem.Spec PyProof.Rows L2
def NdHere (K : PySem.W.Frag) (d : Addr) (ob : Obj) (kvs : List (NKey × D)) (H : Hp) : Prop := H d = some (NdO d ob) ∧ ∃ xs es ep, NdP K H d ob kvs xs es ep
def ItmN (K : PySem.W.Frag) (d : Addr) (ob : Obj) (kvs : List (NKey × D)) : It :=
  ⟨fun i H => i < kvs.length ∧ NdHere K d ob kvs H,
   fun i H x H' => ∃ T a v k dv, kvs[i]? = some (k, dv) ∧ Rp K H (kD k) (.ref a) ∧ Rp K H dv v ∧ x = .ref T ∧ H T = none ∧ H' = upd H T (.tup [.ref a, v]),
   fun i H => kvs.length ≤ i ∧ NdHere K d ob kvs H⟩
def KysN (K : PySem.W.Frag) (d : Addr) (ob : Obj) (kvs : List (NKey × D)) : It :=
  ⟨fun i H => i < kvs.length ∧ NdHere K d ob kvs H,
   fun i H x H' => H' = H ∧ ∃ a k dv, kvs[i]? = some (k, dv) ∧ Rp K H (kD k) (.ref a) ∧ x = .ref a,
   fun i H => kvs.length ≤ i ∧ NdHere K d ob kvs H⟩
theorem pair_at {α β : Type} {F : α → β → Prop} : ∀ {l : List α} {m : List β}, Paired F l m → ∀ (i : Nat) (y : β), m[i]? = some y → ∃ x, l[i]? = some x ∧ F x y
  | _, _, .nil, i, y, h => by simp at h
  | _, _, .cons r t, 0, y, h => by
    simp at h
    subst h
    exact ⟨_, rfl, r⟩
  | _, _, .cons r t, i + 1, y, h => by
    obtain ⟨x, h1, h2⟩ := pair_at t i y (by simpa using h)
    exact ⟨x, by simpa using h1, h2⟩
section
variable {X : Cx} {pins : List (Addr × Obj)} {σ : L2.St} {H : Hp} {s : Shared} {d : Addr} {kvs : List (NKey × D)} {ob : Obj}
/-- the dict's entries, as they stand -/
theorem nd_raw (I : Inv X pins σ H s) {es : Array DictEntry} {ep : Nat} (hod : ob.data = .dict es ep) (h : NdHere X.K d ob kvs H) : s.heap.DictRaw d es ep ∧ (d == sysModules) = false ∧ es.size = kvs.length ∧
    ∀ i (hi : i < es.size), ∃ k dv a v, kvs[i]? = some (k, dv) ∧ okK k = true ∧ es[i].key = .ref a ∧ Rp X.K H (kD k) (.ref a) ∧ Rp X.K H dv v ∧ RelV v es[i].val := by
  obtain ⟨hd, xs, es', ep', n⟩ := h
  obtain ⟨e1, e2⟩ : es' = es ∧ ep' = ep := by
    have := n.dat
    rw [hod] at this
    cases this
    exact ⟨rfl, rfl⟩
  subst e1 e2
  have he := n.ent X.prog X.w
  have hsz : es'.size = xs.length := by
    have := congrArg List.length he
    simpa using this
  refine ⟨⟨ob, nd_obj I hd, n.ex, hod⟩, n.sys, by rw [hsz, ← pair_len n.rel], fun i hi => ?_⟩
  have hx : xs[i]? = some (xs[i]'(by omega)) := List.getElem?_eq_getElem (by omega)
  have e3 : es'.toList[i]? = some es'[i] := by rw [Array.getElem?_toList]; exact Array.getElem?_eq_getElem hi
  rw [he, List.getElem?_map, hx] at e3
  have e3 := Option.some.inj e3
  obtain ⟨⟨k, dv⟩, h1, h2, h3, h4, v, h5, h6⟩ := pair_at n.rel i _ hx
  have h2 : k = (xs[i]'(by omega)).1 := h2
  refine ⟨k, dv, (xs[i]'(by omega)).2.1, v, h1, by rw [h2]; exact h3, by rw [← e3]; rfl, by rw [h2]; exact h4, h5, by rw [← e3]; exact h6⟩
end
section
variable {P : Program} {w : World} {K : PySem.W.Frag} {tg : Expr} {d : Addr} {ob : Obj} {es : Array DictEntry} {ep : Nat} {kvs : List (NKey × D)}
theorem turn_kysN (it : Addr) (hod : ob.data = .dict es ep) (hsz : es.size = kvs.length) : Turn P w K tg (KysN K d ob kvs) [it] it (fun i h => h.IsKeyIter it d i es.size ep) where
  mem := by simp
  obj := fun i h st b hb => by
    obtain rfl : b = it := by simpa using hb
    obtain ⟨oi, e, c, dd⟩ := st
    exact ⟨oi, e, fun v z => by rw [dd] at z; cases z⟩
  keep := fun i h h' st k => st.at fun oi e => k it (by simp) oi e
  item := by
    intro X hP hw hK hc i pins s σ H E I hf st hg
    subst hP hw hK
    obtain ⟨hi, hN⟩ := hg
    obtain ⟨f0, f1, f2, f3, f4, f5⟩ := hf it (by simp)
    obtain ⟨raw, hs, hz, ent⟩ := nd_raw I hod hN
    obtain ⟨k, dv, a, v, e1, ok, e2, rk, rv, rl⟩ := ent i (by omega)
    refine wpAny_pyNext_keys_item_raw st raw (by omega) fun h' st' sb => ?_
    have I1 : Inv X pins σ H { s with heap := h' } := I.turned (t' := s.toks) (fun b ob hb e => (sb.2 b hb).trans e) f0 f1 f3 f4 f5
    obtain ⟨oi, e, c, dd⟩ := id st'
    exact ⟨_, rfl, go_of (s := { s with heap := h' }) e c dd (by decide) ⟨.ref a, H, I1, e2, ⟨rfl, a, k, dv, e1, rk, rfl⟩, st', fun b hb => (hf b hb).1⟩⟩
  done := by
    intro X hP hw hK hc i pins s σ H E I hf st hg
    subst hP hw hK
    obtain ⟨hi, hN⟩ := hg
    obtain ⟨f0, f1, f2, f3, f4, f5⟩ := hf it (by simp)
    obtain ⟨raw, hs, hz, ent⟩ := nd_raw I hod hN
    exact wpAny_pyNext_keys_end_raw (I.ok.hd hc) st raw (by omega) fun h' eb => ⟨rfl, I.turned (t' := s.toks) (fun b ob hb e => eb b ob hb e) f0 f1 f3 f4 f5⟩
  self := fun A i s Q E st h => wpAny_pyIter_keyiter st h
theorem turn_itmN {elts : List Expr} {kk : Nat} {tpos : Pos} (it : Addr) (hod : ob.data = .dict es ep) (hsz : es.size = kvs.length) :
    Turn P w K (.Tuple elts kk tpos) (ItmN K d ob kvs) [it] it (fun i h => ∃ ok ov, IsItemIter h it d i es.size ep ok ov) where
  mem := by simp
  obj := fun i h st b hb => by
    obtain rfl : b = it := by simpa using hb
    obtain ⟨ok, ov, e⟩ := st
    exact ⟨_, e, fun v z => nomatch z⟩
  keep := fun i h h' st k => let ⟨ok, ov, e⟩ := st; ⟨ok, ov, k it (by simp) _ e⟩
  item := by
    intro X hP hw hK hc i pins s σ H E I hf st hg
    subst hP hw hK
    obtain ⟨hi, hN⟩ := hg
    obtain ⟨raw, hs, hz, ent⟩ := nd_raw I hod hN
    obtain ⟨k, dv, a, v, e1, okk, e2, rk, rv, rl⟩ := ent i (by omega)
    obtain ⟨ok, ov, he⟩ := st
    have hlt : it < s.heap.objs.size := Heap.lt_size he
    refine wpAny_pyNext_items_item_raw he raw (by omega) fun h' ho hT hz' hk => ?_
    refine ⟨_, rfl, wpAny_letOwnedTupleGo_items (s := { s with heap := h' }) ho fun h'' he' sb => ?_⟩
    have hT2 := (sb.2 _ (Nat.ne_of_gt hlt)).trans hT
    have new : ObjOk X.prog X.w (upd H s.heap.objs.size (.tup [.ref a, v])) h'' s.heap.objs.size (.tup [.ref a, v]) :=
      ⟨by show 2 ≤ sizeLine; decide, _, .cons e2 (.cons rl .nil), ⟨_, hT2, rfl, _, rfl⟩⟩
    have I1 : Inv X pins σ (upd H s.heap.objs.size (.tup [.ref a, v])) { s with heap := h'' } :=
      I.turnedNew (t' := s.toks) (ch := [it]) (fun b ob hb e => (sb.2 b (by simpa using hb)).trans (hk b ob (by simpa using hb) e)) hf (Nat.le_refl _) new
    refine ⟨.ref s.heap.objs.size, _, I1, rfl, ⟨_, a, v, k, dv, e1, rk, rv, rfl, I.hok.fresh (Nat.le_refl _), rfl⟩, ⟨_, _, he'⟩, fun b hb => ?_⟩
    obtain rfl : b = it := by simpa using hb
    rw [upd_ne (Nat.ne_of_lt hlt)]
    exact (hf b (by simp)).1
  done := by
    intro X hP hw hK hc i pins s σ H E I hf st hg
    subst hP hw hK
    obtain ⟨hi, hN⟩ := hg
    obtain ⟨f0, f1, f2, f3, f4, f5⟩ := hf it (by simp)
    obtain ⟨raw, hs, hz, ent⟩ := nd_raw I hod hN
    obtain ⟨ok, ov, he⟩ := st
    exact wpAny_pyNext_items_end_raw (I.ok.hd hc) he raw (by omega) fun h' eb => ⟨rfl, I.turned (t' := s.toks) (fun b ob hb e => eb b ob hb e) f0 f1 f3 f4 f5⟩
  self := fun A i s Q E st h => let ⟨_, _, e⟩ := st; wpAny_pyIter_itemiter e h
end
def iKysN' (K : PySem.W.Frag) (td : TE) : TI := fun σ H R => td σ H fun x H1 => ∃ d ob kvs, x = .ref d ∧ NdHere K d ob kvs H1 ∧ R (KysN K d ob kvs) H1
def iItmN' (K : PySem.W.Frag) (td : TE) : TI := fun σ H R => td σ H fun x H1 => ∃ d ob kvs, x = .ref d ∧ NdHere K d ob kvs H1 ∧ R (ItmN K d ob kvs) H1
section
variable {X : Cx} {B : Hp} {tg e : Expr} {td : TE} {apos cpos : Pos}
theorem nd_dat {K : PySem.W.Frag} {d : Addr} {ob : Obj} {kvs : List (NKey × D)} {H : Hp} (h : NdHere K d ob kvs H) : ∃ es ep, ob.data = .dict es ep := let ⟨_, _, es, ep, n⟩ := h; ⟨es, ep, n.dat⟩
theorem pi_kysN (he : PE X e td) : PI X tg e (iKysN' X.K td) := by
  refine ⟨fun pins s σ H R I h => thn (he.run pins s σ H _ I h) fun u s1 ⟨x, H1, I1, rx, d, ob, kvs, ex, hN, q⟩ => ?_⟩
  subst ex
  obtain rfl : u = Value.ref d := rx
  obtain ⟨es, ep, hod⟩ := nd_dat hN
  obtain ⟨raw, hs, hz, ent⟩ := nd_raw I1 hod hN
  exact wpAny_pyIter_dict_raw hs raw (pi_one (tk := s1.toks) I1 _ (turn_kysN _ hod hz) ⟨_, Heap.get?_push_size _ rfl, rfl, rfl⟩ q)
theorem pi_itmN {elts : List Expr} {kk : Nat} {tpos : Pos} (he : PE X e td) (hbase : attributeBase e "items" X.env (eval e X.env) = eval e X.env := by rfl) (hline : (apos.endLine == cpos.line) = true := by rfl) :
    PI X (.Tuple elts kk tpos) (.Call (.Attribute e "items" apos) [] [] cpos) (iItmN' X.K td) := by
  refine ⟨fun pins s σ H R I h => wpAny_Call_method0_late hbase hline (thn (he.run pins s σ H _ I h) fun u s1 ⟨x, H1, I1, rx, d, ob, kvs, ex, hN, q⟩ => ?_)⟩
  subst ex
  obtain rfl : u = Value.ref d := rx
  obtain ⟨es, ep, hod⟩ := nd_dat hN
  obtain ⟨raw, hs, hz, ent⟩ := nd_raw I1 hod hN
  refine ⟨"dict", "dict.items", F.plainAttrs_dict, F.slot_dict_items, F.type_dict_items, raw.typeIs, fun a e => ?_, ?_⟩
  · cases e
    obtain ⟨o, ho, hx, _⟩ := raw
    exact ⟨o, ho, hx.2.1⟩
  have I2 : Inv X pins σ H1 { s1 with heap := s1.heap.push { cls := .type "dict_items", data := .fields #[.ref d] } } := I1.kept (t' := s1.toks) fun b ob q => Heap.get?_push_of_some _ q
  refine Calls.callWith_builtin rfl (PySem.evalArgs_none (call_meetsIn F.slot_dict_items raw.typeIs F.entry_dict_items (F.args_dict_items_1 _) (meets_dict_items_raw d hs) ⟨⟨es, ep, raw⟩, ?_⟩))
  exact wpAny_pyIter_items_raw (d := d) (es := es) (ep := ep) ⟨_, Heap.get?_push_size _ rfl, rfl, rfl⟩ (raw.at fun o e => Heap.get?_push_of_some _ e) (pi_one (tk := s1.toks) I2 _ (turn_itmN _ hod hz) ⟨.none, .none, Heap.get?_push_size _ rfl⟩ q)
/-- the items of a dict, which stays as it is while they are walked -/
def itemsN (kvs : List (NKey × D)) : List D := kvs.map fun p => .tup [kD p.1, p.2]
def iItmN (K : PySem.W.Frag) (te : TDE) : TDI := fun δ G R => te δ G fun x G1 => match x with
  | .at (.ref d) => ∃ kvs, G1 d = some (dNd K d kvs) ∧ ∀ ob, R (itemsN kvs) (fun G => G d = some (dNdL K d ob kvs)) (gu G1 d (dNdL K d ob kvs))
  | _ => False
def iKysN (K : PySem.W.Frag) (te : TDE) : TDI := fun δ G R => te δ G fun x G1 => match x with
  | .at (.ref d) => ∃ kvs, G1 d = some (dNd K d kvs) ∧ ∀ ob, R (kvs.map fun p => kD p.1) (fun G => G d = some (dNdL K d ob kvs)) (gu G1 d (dNdL K d ob kvs))
  | _ => False
theorem here_of {K : PySem.W.Frag} {G : GH} {H : Hp} {d : Addr} {ob : Obj} {kvs : List (NKey × D)} (g : RelG K G H) (h : G d = some (dNdL K d ob kvs)) : NdHere K d ob kvs H := by
  obtain ⟨xs, es, ep, h1, h2⟩ := g.ndL h
  exact ⟨h1, xs, es, ep, h2⟩
theorem di_itmN {elts : List Expr} {kk : Nat} {tpos : Pos} {te : TDE} (he : DE X B e te) (hbase : attributeBase e "items" X.env (eval e X.env) = eval e X.env := by rfl) (hline : (apos.endLine == cpos.line) = true := by rfl) :
    DI X B (.Tuple elts kk tpos) (.Call (.Attribute e "items" apos) [] [] cpos) (iItmN X.K te) := by
  obtain ⟨t1, p1, l1⟩ := he
  refine ⟨_, pi_itmN p1 hbase hline, fun σ H δ G R R' Rr h k => l1 σ H δ G _ _ Rr h fun v H1 d1 G1 t1 g1 r1 h1 => ?_⟩
  split at h1
  · rename_i d
    obtain ⟨kvs, e0, h1⟩ := h1
    obtain ⟨ob, g2⟩ := g1.lock e0
    refine ⟨d, ob, kvs, r1.at_, here_of g2 gu_same, k _ _ _ _ H1 t1 g2 ?_ (h1 ob)⟩
    refine ⟨fun i G H t g st hi => ⟨by simpa [itemsN] using hi, here_of g st⟩, fun i G H x H' t g st _ y => ?_, fun G H t g st => ⟨by simp [itemsN], here_of g st⟩, fun G G' l st => l _ _ st⟩
    obtain ⟨T, a, v, q, dv, e1, rk, rv, rfl, hT, rfl⟩ := y
    have tp : Tp H (upd H T (.tup [.ref a, v])) := Tp.new hT
    refine ⟨.tup [kD q, dv], by unfold itemsN; rw [List.getElem?_map, e1]; rfl, tp, ?_, .tup (SqT.of upd_same) (.cons (rk.mono tp) (.cons (rv.mono tp) .nil))⟩
    exact (g.new (m := .raw (.tup [.ref a, v])) hT ⟨rfl, rfl⟩).le (Le.new (g.fresh hT))
  · exact h1.elim
theorem di_kysN {te : TDE} (he : DE X B e te) : DI X B tg e (iKysN X.K te) := by
  obtain ⟨t1, p1, l1⟩ := he
  refine ⟨_, pi_kysN p1, fun σ H δ G R R' Rr h k => l1 σ H δ G _ _ Rr h fun v H1 d1 G1 t1 g1 r1 h1 => ?_⟩
  split at h1
  · rename_i d
    obtain ⟨kvs, e0, h1⟩ := h1
    obtain ⟨ob, g2⟩ := g1.lock e0
    refine ⟨d, ob, kvs, r1.at_, here_of g2 gu_same, k _ _ _ _ H1 t1 g2 ?_ (h1 ob)⟩
    refine ⟨fun i G H t g st hi => ⟨by simpa using hi, here_of g st⟩, fun i G H x H' t g st _ y => ?_, fun G H t g st => ⟨by simp, here_of g st⟩, fun G G' l st => l _ _ st⟩
    obtain ⟨rfl, a, q, dv, e1, rk, rfl⟩ := y
    exact ⟨kD q, by rw [List.getElem?_map, e1]; rfl, Tp.refl _, g, rk⟩
  · exact h1.elim
end
end Dl

set_option Elab.async false
set_option linter.all false
set_option maxRecDepth 100000
set_option maxHeartbeats 4000000
/-! The data layer: the least of a dict's values, a dict's keys in order. -/
namespace Dl
open PySem PySem.Spec PyProof.Rows L2
/-! ### sorted(d) -/
section
variable {X : Cx} {pins : List (Addr × Obj)} {σ : L2.St} {H : Hp} {s : Shared}
mutual
theorem rp_reads (I : Inv X pins σ H s) : ∀ (k : NKey) {v : V} {u : Value}, Rp X.K H (kD k) v → RelV v u → Reads s.heap u (py (kD k)) []
  | .none, v, u, r, q => by
    rw [r.at_] at q
    cases (show u = Value.none from q)
    exact .none
  | .num i, v, u, r, q => by
    rw [r.at_] at q
    obtain ⟨t, rfl⟩ := q
    exact .int i t
  | .text x, v, u, r, q => by
    rw [r.at_] at q
    obtain ⟨t, rfl⟩ := q
    exact .str x t
  | .tup ks, v, u, r, q => by
    obtain ⟨a, vs, rfl, hs, rr⟩ := Rp.tup_ r
    cases (show u = Value.ref a from q)
    obtain ⟨its, rv, ⟨o, ho, hc, n, hd⟩, _⟩ := I.tuple hs
    exact .tuple ho hc hd (by simpa using rps_reads I ks rr rv)
theorem rps_reads (I : Inv X pins σ H s) : ∀ (ks : List NKey) {vs : List V} {us : List Value}, Rps X.K H (kDs ks) vs → Vals vs us → ReadsAll s.heap us (pys (kDs ks)) []
  | [], vs, us, r, q => by
    cases r
    cases q
    exact .nil
  | k :: ks, vs, us, r, q => by
    cases r with
    | cons h r =>
      cases q with
      | cons g q => exact .cons (as := []) (bs := []) (rp_reads I k h g) (rps_reads I ks r q)
end
end
def rSortN (K : PySem.W.Frag) : List V → Hp → VK → Prop := fun vs H Q => ∃ d kvs, vs = [V.ref d] ∧ NdV K H d kvs ∧ (kvs.length ≤ 1 ∨ (PySem.W.AllAlike (kvs.map fun p => py (kD p.1)) ∧ PySem.W.Sortable (kvs.map fun p => py (kD p.1)))) ∧ (∀ p ∈ kvs, (py (kD p.1)).depth ≤ 9) ∧
  ∀ p us, H p = none → Rps K H ((kvs.map fun p => kD p.1).mergeSort (PySem.W.dataLe false py)) us → Q (.ref p) (upd H p (.lst us))
section
variable {X : Cx} {K : PySem.W.Frag}
theorem nd_acc {pins : List (Addr × Obj)} {σ : L2.St} {H : Hp} {s : Shared} {d : Addr} {kvs : List (NKey × D)} {ob : Obj} {es : Array DictEntry} {acc : Array Value}
    (ent : ∀ i (hi : i < es.size), ∃ k dv a v, kvs[i]? = some (k, dv) ∧ okK k = true ∧ es[i].key = .ref a ∧ Rp X.K H (kD k) (.ref a) ∧ Rp X.K H dv v ∧ RelV v es[i].val) (hz : es.size = kvs.length)
    (it : ItemsOf (fun i v => ∃ en : DictEntry, es[i]? = some en ∧ v = en.key) acc es.size) : ∃ us : List V, Rps X.K H (kvs.map fun p => kD p.1) us ∧ Vals us acc.toList := by
  have hl : acc.toList.length = es.size := by rw [Array.length_toList]; exact it.1
  have at_ : ∀ j (hj : j < acc.toList.length), ∃ a, acc.toList[j] = Value.ref a ∧ ∃ k dv, kvs[j]? = some (k, dv) ∧ Rp X.K H (kD k) (.ref a) := fun j hj => by
    have e1 : acc[j]? = some acc.toList[j] := by rw [← Array.getElem?_toList]; exact List.getElem?_eq_getElem hj
    obtain ⟨en, h1, h2⟩ := it.2 j _ e1
    have hj2 : j < es.size := by omega
    rw [Array.getElem?_eq_getElem hj2] at h1
    cases h1
    obtain ⟨k, dv, a, v, g1, g2, g3, g4, _⟩ := ent j hj2
    exact ⟨a, by rw [h2, g3], k, dv, g1, g4⟩
  generalize acc.toList = l at hl at_
  have hk : l.length = kvs.length := by omega
  clear ent it hl hz
  induction l generalizing kvs with
  | nil =>
    cases kvs with
    | nil => exact ⟨[], .nil, .nil⟩
    | cons p kvs => simp at hk
  | cons u l ih =>
    cases kvs with
    | nil => simp at hk
    | cons p kvs =>
      obtain ⟨us, h1, h2⟩ := ih (kvs := kvs) (fun j hj => by
        obtain ⟨a, e1, k, dv, e2, e3⟩ := at_ (j + 1) (by simpa using hj)
        exact ⟨a, by simpa using e1, k, dv, by simpa using e2, e3⟩) (by simpa using hk)
      obtain ⟨a, e1, k, dv, e2, e3⟩ := at_ 0 (by simp)
      have e1 : u = Value.ref a := e1
      have e2 : p = (k, dv) := by simpa using e2
      subst e1 e2
      exact ⟨.ref a :: us, .cons e3 h1, .cons rfl h2⟩
theorem reads_keys {pins : List (Addr × Obj)} {σ : L2.St} {H : Hp} {s : Shared} (I : Inv X pins σ H s) : ∀ {ks : List NKey} {us : List V} {vs : List Value}, Rps X.K H (ks.map kD) us → Vals us vs →
    PySem.W.EachIs (fun v (b : V × PyData) => RelV b.1 v) vs (us.zip (pys (ks.map kD))) ∧ PySem.W.EachIs (fun v (b : V × PyData) => Reads s.heap v b.2 []) vs (us.zip (pys (ks.map kD)))
  | [], _, _, .nil, r => by cases r; exact ⟨.nil, .nil⟩
  | k :: ks, _, _, .cons h t, r => by
    cases r with
    | cons g r =>
      obtain ⟨h1, h2⟩ := reads_keys I t r
      exact ⟨.cons g h1, .cons (rp_reads I k h g) h2⟩
theorem each_imp {β : Type} {R S : Value → β → Prop} (f : ∀ v b, R v b → S v b) : ∀ {vs : List Value} {bs : List β}, PySem.W.EachIs R vs bs → PySem.W.EachIs S vs bs
  | _, _, .nil => .nil
  | _, _, .cons h t => .cons (f _ _ h) (each_imp f t)
theorem cr_sortN (hcalm : X.calm = true) (hu : X.A.units + 64 < cLine) : CallR X (.builtin "sorted") (rSortN X.K) := by
  intro pins s σ H vs us Q I r h
  obtain ⟨d, kvs, rfl, ⟨ob, xs, es, ep, hd, n⟩, hk, hdp, q⟩ := h
  rw [Vals.ref1 r]
  have here : NdHere X.K d ob kvs H := ⟨hd, xs, es, ep, n⟩
  obtain ⟨raw, hs, hz, ent⟩ := nd_raw I n.dat here
  have hzl : es.size ≤ sizeLine := by rw [hz]; exact n.len
  refine Calls.call_function_entry kind_sorted plain_sorted entry_sorted (args_sorted1 _) ?_
  unfold Builtin.«sorted»
  refine wpAny_bind (m := checkCount "sorted" 1 1 _) (wpAny_pure ?_)
  refine wpAny_bind (PySem.W.kdu_collect (A := X.A.in1) (kdl_raw hs n.ex n.dat) (I.ok.hd hcalm) (nd_obj I hd) hzl fun h1 tk acc keep it => ?_)
  obtain ⟨us, ru, rv⟩ := nd_acc (X := X) (kvs := kvs) (s := s) (pins := pins) (σ := σ) (d := d) (ob := ob) ent hz it
  have I1 : Inv X pins σ H { s with heap := h1, toks := tk } := I.kept keep
  have la : acc.toList.length = kvs.length := by rw [Array.length_toList, it.1, hz]
  have hl2 : acc.toList.length ≤ sizeLine := by rw [la]; exact n.len
  refine wpAny_bind (wpAny_newList ?_ hl2)
  have new : (h1.push (seqObj "list" acc.toList.toArray 0)).get? h1.objs.size = some (seqObj "list" acc.toList.toArray 0) := Heap.get?_push_size _ rfl
  have e0 : (kvs.map fun p => kD p.1) = (kvs.map (·.1)).map kD := by rw [List.map_map]; rfl
  -- what the sort leaves behind
  have fin2 : ∀ out : List Value, out.length = acc.toList.length → (∃ ws, Rps X.K H ((kvs.map fun p => kD p.1).mergeSort (PySem.W.dataLe false py)) ws ∧ Vals ws out) →
      EP X pins σ Q (Value.ref h1.objs.size) { s with heap := sortedHeap (h1.push (seqObj "list" acc.toList.toArray 0)) h1.objs.size acc.toList out.toArray, toks := tk } := fun out lo ⟨ws, rw, vw⟩ => by
    obtain ⟨ep, last⟩ := PyProof.Rows.sortedHeap_at (vs := acc.toList) (out := out.toArray) new
    have few : ws.length ≤ sizeLine := by rw [vw.length, lo]; exact hl2
    refine ⟨.ref h1.objs.size, upd H h1.objs.size (.lst ws), I1.laid (t' := tk) (fun b u e => ?_) (Nat.le_refl _) ⟨few, out, ep, vw, last⟩, rfl, q _ _ (I1.hok.fresh (Nat.le_refl _)) rw⟩
    have lt : b < h1.objs.size := Heap.lt_size e
    rw [PyProof.Rows.sortedHeap_old (Nat.ne_of_lt lt) (by rw [size_push']; exact Nat.lt_succ_of_lt lt)]
    exact Heap.get?_push_of_some _ e
  rcases hk with hk | ⟨hal, hso⟩
  · refine wpAny_bind (wpAny_holding (wpAny_call_entry slot_list_sort ⟨_, new, rfl⟩ entry_list_sort
      (SrtO.list_sort_ord (s := { s with heap := h1.push (seqObj "list" acc.toList.toArray 0), toks := tk }) (ltv := fun _ _ => false) ⟨fun _ _ _ => rfl, fun _ _ _ _ _ => rfl⟩ new hl2 (fun h2 => absurd h2 (by omega)) fun out o1 o2 => ⟨_, rfl, ?_⟩) (args_list_sort _)))
    refine wpAny_pure ⟨_, rfl, fin2 out o2.len ⟨us, ?_, ?_⟩⟩
    · have : (kvs.map fun p => kD p.1).mergeSort (PySem.W.dataLe false py) = kvs.map fun p => kD p.1 := by
        match kvs, hk with
        | [], _ => simp
        | [p], _ => simp
      rw [this]
      exact ru
    · have : out = acc.toList := by
        have p := o2.perm
        match hq : acc.toList, la with
        | [], _ => rw [hq] at p; exact List.perm_nil.mp p
        | [x], _ => rw [hq] at p; exact List.perm_singleton.mp p
        | _ :: _ :: _, la => simp at la; omega
      rw [this]
      exact rv
  · have I2 : Inv X pins σ H { s with heap := h1.push (seqObj "list" acc.toList.toArray 0), toks := tk } := I1.kept (t' := tk) fun b o e => Heap.get?_push_of_some _ e
    rw [e0] at ru
    obtain ⟨w1, w2⟩ := reads_keys I2 ru rv
    have lz : us.length = (pys ((kvs.map (·.1)).map kD)).length := by rw [pys_map, List.length_map]; exact ru.length.symm
    have z2 : (us.zip (pys ((kvs.map (·.1)).map kD))).map (·.2) = kvs.map fun p => py (kD p.1) := by
      rw [List.map_snd_zip (by omega), pys_map, List.map_map, List.map_map]
      rfl
    have lo : (us.zip (pys ((kvs.map (·.1)).map kD))).length = kvs.length := by
      have := congrArg List.length z2
      simpa using this
    refine wpAny_bind (wpAny_holding (PySem.W.list_sort_data (s := { s with heap := h1.push (seqObj "list" acc.toList.toArray 0), toks := tk }) (enc := fun b : V × PyData => b.2) new w1 (each_imp (fun v b h => ⟨[], h, by simp⟩) w2) (by rw [z2]; exact hal) (by rw [z2]; exact hso) (by rw [lo]; exact n.len) (fun b hb => ?_) fun out lo2 ho => ?_))
    · have : b.2 ∈ kvs.map fun p => py (kD p.1) := by rw [← z2]; exact List.mem_map.mpr ⟨b, hb, rfl⟩
      obtain ⟨p, hp, e⟩ := List.mem_map.mp this
      have := hdp p hp
      rw [← e]
      show X.A.units + 1 + 1 + _ < _
      omega
    · refine wpAny_pure ⟨_, rfl, fin2 out (by rw [lo2, lo, la]) ⟨_, ?_, each_vals ho⟩⟩
      rw [e0]
      exact mergeSort_zip ru
def dSortN (K : PySem.W.Frag) : RDC := fun ds G Q => match ds with
  | [.at (.ref d)] => ∃ kvs, IsNd K G d kvs ∧ (kvs.length ≤ 1 ∨ (PySem.W.AllAlike (kvs.map fun p => py (kD p.1)) ∧ PySem.W.Sortable (kvs.map fun p => py (kD p.1)))) ∧ (∀ p ∈ kvs, (py (kD p.1)).depth ≤ 9) ∧
    ∀ p, G p = none → Q (dR p) (gu G p (.lst ((kvs.map fun p => kD p.1).mergeSort (PySem.W.dataLe false py))))
  | _ => False
theorem lc_sortN : LC K (rSortN K) (dSortN K) := fun H G ds vs Q Q' g r h k => by
  unfold dSortN at h
  split at h
  · rename_i d
    obtain ⟨v, rfl, r1⟩ := r.one
    obtain ⟨kvs, hn, hk, hdp, h⟩ := h
    exact ⟨d, kvs, by rw [r1.at_], hn.v g, hk, hdp, fun p us hp ru => new_lst g ru hp h k⟩
  · exact h.elim
/-! ### min(d.values()) of numbers -/
def VwO (p d : Addr) : HO := .ext fun h => h.get? p = some { cls := .type "dict_values", data := .fields #[.ref d] }
def dVals (K : PySem.W.Frag) (to : TDE) : TDE := fun δ G Q => to δ G fun o G1 => match o with
  | .at (.ref d) => (∃ kvs, IsNd K G1 d kvs) ∧ ∀ p, G1 p = none → Q (dR p) (gu G1 p (.raw (VwO p d)))
  | _ => False
def tVals (K : PySem.W.Frag) (to : TE) : TE := fun σ H Q => to σ H fun x H1 => ∃ d kvs, x = .ref d ∧ NdV K H1 d kvs ∧ ∀ p, H1 p = none → Q (.ref p) (upd H1 p (VwO p d))
theorem pe_vals {o : Expr} {apos cpos : Pos} {to : TE} (ho : PE X o to) (hbase : attributeBase o "values" X.env (eval o X.env) = eval o X.env := by rfl) (hline : (apos.endLine == cpos.line) = true := by rfl) :
    PE X (.Call (.Attribute o "values" apos) [] [] cpos) (tVals X.K to) := by
  refine ⟨fun pins s σ H Q I h => wpAny_Call_method0_late hbase hline (thn (ho.run pins s σ H _ I h) fun u s1 ⟨x, H1, I1, rx, d, kvs, ex, ⟨ob, xs, es, ep, hd, n⟩, q⟩ => ?_)⟩
  subst ex
  obtain rfl : u = Value.ref d := rx
  obtain ⟨raw, hs, hz, ent⟩ := nd_raw I1 n.dat ⟨hd, xs, es, ep, n⟩
  refine ⟨"dict", "dict.values", F.plainAttrs_dict, F.slot_dict_values, F.type_dict_values, raw.typeIs, fun a e => ?_, ?_⟩
  · cases e
    exact ⟨ob, nd_obj I1 hd, n.ex.2.1⟩
  refine Calls.callWith_builtin rfl (PySem.evalArgs_none (call_meetsIn F.slot_dict_values raw.typeIs F.entry_dict_values (F.args_dict_values_1 _) (meets_dict_values_raw d hs) ⟨⟨es, ep, raw⟩, ?_⟩))
  exact ⟨.ref s1.heap.objs.size, _, I1.laid (a := s1.heap.objs.size) (o := VwO s1.heap.objs.size d) (t' := s1.toks) (fun _ _ q => Heap.get?_push_of_some _ q) (Nat.le_refl _) ⟨Heap.get?_push_size _ rfl, ⟨_, Heap.get?_push_size _ rfl⟩, fun h1 h2 p q => q _ p⟩, rfl, q _ (I1.hok.fresh (Nat.le_refl _))⟩
theorem de_vals {B : Hp} {o : Expr} {apos cpos : Pos} {to : TDE} (ho : DE X B o to) (hbase : attributeBase o "values" X.env (eval o X.env) = eval o X.env := by rfl) (hline : (apos.endLine == cpos.line) = true := by rfl) :
    DE X B (.Call (.Attribute o "values" apos) [] [] cpos) (dVals X.K to) := by
  obtain ⟨t1, p1, l1⟩ := ho
  refine ⟨_, pe_vals p1 hbase hline, fun σ H δ G Q Q' R h k => l1 σ H δ G _ _ R h fun x H1 d1 G1 t1 g1 r1 h1 => ?_⟩
  split at h1
  · rename_i d
    obtain ⟨⟨kvs, hn⟩, h1⟩ := h1
    refine ⟨d, kvs, r1.at_, hn.v g1, fun p hp => ?_⟩
    have tp : Tp H1 (upd H1 p (VwO p d)) := Tp.new hp
    exact k _ _ (dR p) _ (t1.trans tp) (g1.new (m := .raw (VwO p d)) hp ⟨rfl, rfl⟩) (.at _) (h1 p (g1.fresh hp))
  · exact h1.elim
def rMinVI (K : PySem.W.Frag) : List V → Hp → VK → Prop := fun vs H Q => ∃ p d kvs, ∃ ns : List Int, vs = [V.ref p] ∧ H p = some (VwO p d) ∧ NdV K H d kvs ∧ kvs.map (·.2) = ns.map dI ∧ ns ≠ [] ∧ ∀ m, m ∈ ns → (∀ y ∈ ns, m ≤ y) → Q (.int m) H
theorem cr_minVI (hcalm : X.calm = true) : CallR X (.builtin "min") (rMinVI X.K) := by
  intro pins s σ H vs us Q I r h
  obtain ⟨p, d, kvs, ns, rfl, hp, ⟨ob, xs, es, ep, hd, n⟩, hns, hne, q⟩ := h
  rw [Vals.ref1 r]
  obtain ⟨raw, hs, hz, ent⟩ := nd_raw I n.dat ⟨hd, xs, es, ep, n⟩
  have hv : s.heap.get? p = some { cls := .type "dict_values", data := .fields #[.ref d] } := (I.hok p _ hp).1
  have hl : kvs.length = ns.length := by
    have := congrArg List.length hns
    simpa using this
  have hpos : 0 < es.size := by
    have := List.length_pos_iff.mpr hne
    omega
  have da : d < s.heap.objs.size := by
    obtain ⟨o, ho, _⟩ := id raw
    exact Heap.lt_size ho
  have val : ∀ i (hi : i < es.size), ∃ t, es[i].val = .int (ns.getD i 0) t := fun i hi => by
    obtain ⟨k, dv, a, v, e1, _, _, _, rv, rl⟩ := ent i hi
    have hin : i < ns.length := by omega
    have e2 : (kvs.map (·.2))[i]? = some dv := by rw [List.getElem?_map, e1]; rfl
    rw [hns, List.getElem?_map, List.getElem?_eq_getElem hin] at e2
    have e2 : dI ns[i] = dv := Option.some.inj e2
    subst e2
    rw [rv.at_] at rl
    obtain ⟨t, e3⟩ := rl
    refine ⟨t, ?_⟩
    rw [e3, List.getD_eq_getElem?_getD, List.getElem?_eq_getElem hin]
    rfl
  refine call_min_walk ?_
  refine wpAny_pyIter_values_raw (d := d) ⟨_, hv, rfl, rfl⟩ raw ?_
  refine ⟨s.heap.objs.size, [s.heap.objs.size, d], [s.heap.objs.size], es.size, fun i v => ∃ t, v = .int (ns.getD i 0) t, _, fun i j => decide (ns.getD i 0 < ns.getD j 0), rfl,
    (Walks.rawValues (show X.A.in1.handled = none from I.ok.hd hcalm) s.heap.objs.size d (Nat.ne_of_lt da) es ep).mono_item (fun i v hi hv => by
      obtain ⟨hi', rfl⟩ := hv
      exact val i hi'), ⟨⟨_, Heap.get?_push_size _ rfl, rfl, rfl⟩, raw.at fun o e => Heap.get?_push_of_some _ e⟩, fun b hb => ?_, hpos, CmpOf.ints_lt (fun i => ns.getD i 0) (fun i v z => z), fun v h' tk hv' hk => ?_⟩
  · show b < (s.heap.push _).objs.size
    rw [size_push']
    rcases List.mem_cons.mp hb with rfl | hb
    · exact Nat.lt_succ_self _
    · rw [List.mem_singleton.mp hb]
      exact Nat.lt_succ_of_lt da
  · obtain ⟨t, rfl⟩ := hv'
    obtain ⟨m1, m2⟩ := argBest_lt (fun i => ns.getD i 0) (es.size - 1)
    have k2 : ∀ b o, s.heap.get? b = some o → h'.get? b = some o := fun b o e => hk b o (fun z => by rw [List.mem_singleton.mp z] at e; exact absurd (Heap.lt_size e) (Nat.lt_irrefl _)) (Heap.get?_push_of_some _ e)
    refine ⟨.int _, H, I.kept (t' := tk) k2, ⟨t, rfl⟩, q _ (PySem.getD_mem (by have : argBest (fun i j => decide (ns.getD i 0 < ns.getD j 0)) (es.size - 1) ≤ es.size - 1 := m1; omega)) fun y hy => ?_⟩
    obtain ⟨j, hj, e⟩ := List.mem_iff_getElem.mp hy
    have := m2 j (by omega)
    have e3 : ns.getD j 0 = y := by rw [List.getD_eq_getElem?_getD, List.getElem?_eq_getElem hj, ← e]; rfl
    rw [e3] at this
    exact this
def dMinVI (K : PySem.W.Frag) : RDC := fun ds G Q => match ds with
  | [.at (.ref p)] => ∃ d kvs, ∃ ns : List Int, G p = some (.raw (VwO p d)) ∧ IsNd K G d kvs ∧ kvs.map (·.2) = ns.map dI ∧ ns ≠ [] ∧ ∀ m, m ∈ ns → (∀ y ∈ ns, m ≤ y) → Q (dI m) G
  | _ => False
theorem RelG.raw_ {G : GH} {H : Hp} {p : Addr} {o : HO} (g : RelG K G H) (h : G p = some (.raw o)) : H p = some o := by
  obtain ⟨hid, R⟩ := g
  obtain ⟨o', ho, _, e⟩ := R.ob p _ h
  rw [ho, e]
theorem lc_minVI : LC K (rMinVI K) (dMinVI K) := fun H G ds vs Q Q' g r h k => by
  unfold dMinVI at h
  split at h
  · rename_i p
    obtain ⟨v, rfl, r1⟩ := r.one
    obtain ⟨d, kvs, ns, hp, hn, e, hne, h⟩ := h
    exact ⟨p, d, kvs, ns, by rw [r1.at_], g.raw_ hp, hn.v g, e, hne, fun m hm hy => k _ H _ G (Tp.refl H) g (.at _) (h m hm hy)⟩
  · exact h.elim
end
end Dl

set_option Elab.async false
set_option linter.all false
set_option maxRecDepth 100000
set_option maxHeartbeats 4000000
/-! The data layer: defaults, keywords, ranges with a step, lists turned, data in lists. -/
namespace Dl
open PySem PySem.Spec PyProof.Rows L2
/-! ### calls that leave parameters to their defaults, calls with keywords -/
/-- f's promise kept; what lacks behind the written parameters is dd -/
def OkFd (P : Program) (w : World) (K : PySem.W.Frag) (mg : Str → Option Value) (base : Heap) (k : Nat) (f : Addr) (ps : List Str) (dsp : DSp) (dvs : List V) (ks : List Str) : Prop :=
  ∃ fd, FnOk P w K mg base (L2.CX P w) k f fd ps (spV K dsp) ∧ (∃ ds, Vals dvs ds ∧ Binds K fd ps ds) ∧ (∃ g, KBn K fd ps (ps.length - ks.length) ks g (fun us ws => us ++ ws)) ∧ PySem.W.keepIn K (.ref f) = true
section
variable {X : Cx} {B : Hp} {CX : CXT} {k j n : Nat} {f C : Addr} {fd : FuncData} {ps ks : List Str} {sp : Sp} {dsp : DSp} {E : L2.St → XK} {x m : Str} {p pos apos : Pos} {e o : Expr} {es : List Expr} {kws : List Keyword} {t tk : TA} {ta tka : TDA} {WD : XDW} {dvs : List V} {ds : List Value} {dd : List D}
theorem run_fnSd {pins : List (Addr × Obj)} {σ : L2.St} {H : Hp} {s : Shared} {Q : VK} {us : List Value} {vs : List V} (F : FnOk X.prog X.w X.K X.mg X.base CX k f fd ps sp) (hr : Room k X.A) (hb : Binds X.K fd ps ds) (hd : Vals dvs ds) (hx : PassesAt CX X σ (E σ))
    (I : Inv X pins σ H s) (r : Vals vs us) (h : sp (vs ++ dvs) H Q (E σ)) : wpAny (model X.prog X.w) X.A (call (.ref f) us) (EP X pins σ Q) X.xe s := by
  have ra : Vals (vs ++ dvs) (us ++ ds) := r.append hd
  have hl : (us ++ ds).length = ps.length := by rw [← ra.length]; exact F.len _ _ _ _ h
  refine wpAny_call (codeAny_mono (F.run X.A X.stack s H ⟨us, []⟩ (us ++ ds) (vs ++ dvs) Q (E σ) hr I.env0 (hb s us I.kIn hl) ra h) fun q s' hq => ?_)
  match q, hq with
  | .error e, hq => exact hx pins H s e s' I hq
  | .ok (.ret u), hq => exact I.after hq
  | .ok .next, hq => exact False.elim hq
  | .ok .brk, hq => exact False.elim hq
  | .ok .cont, hq => exact False.elim hq
def tCallSd (sp : Sp) (dvs : List V) (E : L2.St → XK) (t : TA) : TE := fun σ H Q => t σ H fun vs H1 => sp (vs ++ dvs) H1 Q (E σ)
theorem pe_callSd (F : FnOk X.prog X.w X.K X.mg X.base CX k f fd ps sp) (hr : Room k X.A) (hg : Gl X x) (hm : X.mg x = some (.ref f)) (hk : PySem.W.keepIn X.K (.ref f) = true) (hb : Binds X.K fd ps ds) (hd : Vals dvs ds) (hx : ∀ σ, PassesAt CX X σ (E σ))
    (ha : PA X (e :: es) t) (hdb : (x == ("__debug__" : Str)) = false := by decide) (he : starEach (e :: es) X.env = (false, eval e X.env) :: starEach es X.env := by rfl) (hpl : (backTo pos (starEach es X.env)).any (·.1) = false := by rfl) :
    PE X (.Call (.Name x p) (e :: es) [] pos) (tCallSd sp dvs E t) := by
  refine ⟨fun pins s σ H Q I h => wpAny_Call_Name_kw (ld_glob I hg hm ?_ hdb)⟩
  exact PySem.W.callWith_K (h₀ := X.base) I.ok.mod.kin hk (thn (ha.run pos pins s σ H _ I h) fun us s1 ⟨vs, H1, I1, r, q⟩ => ⟨I1.kIn, run_fnSd F hr hb hd (hx σ) I1 r q⟩) he hpl
def dCallD (dsp : DSp) (dd : List D) (WD : XDW) (t : TDA) : TDE := fun δ G Q => t δ G fun ds G1 => dsp (ds ++ dd) G1 Q fun C fs G2 => WD C fs δ G2
theorem de_cfd (F : OkFd X.prog X.w X.K X.mg X.base k f ps dsp dvs ks) (hr : Room j X.A) (hm : X.mg x = some (.ref f)) (hx : XOk X B WD) (hdd : ∀ H, Rps X.K H dd dvs) (ha : DA X B (e :: es) ta) (hk : k ≤ j := by decide) (hg : Gl X x := by rfl)
    (hdb : (x == ("__debug__" : Str)) = false := by decide) (he : starEach (e :: es) X.env = (false, eval e X.env) :: starEach es X.env := by rfl) (hpl : (backTo pos (starEach es X.env)).any (·.1) = false := by rfl) :
    DE X B (.Call (.Name x p) (e :: es) [] pos) (dCallD dsp dd WD ta) := by
  obtain ⟨fd, F, ⟨ds, hd, hb⟩, _, kp⟩ := F
  obtain ⟨t1, p1, l1⟩ := ha
  obtain ⟨W, tk, hW⟩ := hx.ex
  refine ⟨_, pe_callSd F (hr.mono hk) hg hm kp hb hd (fun σ => passAt tk σ) p1 hdb he hpl, fun σ H δ G Q Q' R h k => l1 σ H δ G _ _ R h fun vs H1 ds G1 t1 g1 r1 h1 => ?_⟩
  exact ⟨ds ++ dd, G1, Q, _, g1, r1.app (hdd H1), h1, k.mono t1, fun C fs od G' H' t2 g2 x w => hW C fs od δ G' σ H' ((R.next t1 g1).next t2 g2) x w⟩
/-! with keywords -/
theorem run_fnNd {pins : List (Addr × Obj)} {σ : L2.St} {H : Hp} {s : Shared} {Q : VK} {us ws : List Value} {vs zs : List V} {g : List Value → List Value → List Value} {gV : List V → List V → List V} (F : FnOk X.prog X.w X.K X.mg X.base CX k f fd ps sp) (hr : Room k X.A) (hb : KBn X.K fd ps n ks g gV) (hx : PassesAt CX X σ (E σ))
    (I : Inv X pins σ H s) (r : Vals vs us) (rz : Vals zs ws) (l1 : vs.length = n) (l2 : zs.length = ks.length) (h : sp (gV vs zs) H Q (E σ)) : wpAny (model X.prog X.w) X.A (call (.ref f) us (ks.zip ws)) (EP X pins σ Q) X.xe s := by
  refine wpAny_call (codeAny_mono (F.run X.A X.stack s H ⟨us, ks.zip ws⟩ (g us ws) (gV vs zs) Q (E σ) hr I.env0 (hb.to s us ws I.kIn (r.length.symm.trans l1) (rz.length.symm.trans l2)) (hb.rel r rz) h) fun q s' hq => ?_)
  match q, hq with
  | .error e, hq => exact hx pins H s e s' I hq
  | .ok (.ret u), hq => exact I.after hq
  | .ok .next, hq => exact False.elim hq
  | .ok .brk, hq => exact False.elim hq
  | .ok .cont, hq => exact False.elim hq
def tCallNd (n m : Nat) (sp : Sp) (gV : List V → List V → List V) (E : L2.St → XK) (t tk : TA) : TE := fun σ H Q => t σ H fun vs H1 => tk σ H1 fun zs H2 => vs.length = n ∧ zs.length = m ∧ sp (gV vs zs) H2 Q (E σ)
theorem pe_callNd {g : List Value → List Value → List Value} {gV : List V → List V → List V} (F : FnOk X.prog X.w X.K X.mg X.base CX k f fd ps sp) (hr : Room k X.A) (hg : Gl X x) (hm : X.mg x = some (.ref f)) (hk : PySem.W.keepIn X.K (.ref f) = true) (hb : KBn X.K fd ps n ks g gV) (hx : ∀ σ, PassesAt CX X σ (E σ))
    (ha : PA X (e :: es) t) (hkw : PK X kws tk) (hall : (backToKw pos (keywordEach kws X.env)).all (·.1.isSome) = true := by rfl) (hks : (backToKw pos (keywordEach kws X.env)).filterMap (·.1) = ks := by rfl)
    (hdb : (x == ("__debug__" : Str)) = false := by decide) (he : starEach (e :: es) X.env = (false, eval e X.env) :: starEach es X.env := by rfl)
    (hpl : ((backTo pos (starEach (e :: es) X.env)).any (·.1) || (backToKw pos (keywordEach kws X.env)).any (·.1.isNone)) = false := by rfl) :
    PE X (.Call (.Name x p) (e :: es) kws pos) (tCallNd n ks.length sp gV E t tk) := by
  refine ⟨fun pins s σ H Q I h => wpAny_Call_Name_kw (ld_glob I hg hm ?_ hdb)⟩
  refine PySem.W.callWith_KW (h₀ := X.base) I.ok.mod.kin hk hall (thn (ha.run pos pins s σ H _ I h) fun us s1 ⟨vs, H1, I1, r, q⟩ => ?_) hpl he
  refine thn (hkw.run pos pins s1 σ H1 _ I1 q) fun ws s2 ⟨zs, H2, I2, rz, l1, l2, q2⟩ => ⟨I2.kIn, ?_⟩
  rw [hks]
  exact run_fnNd F hr hb (hx σ) I2 r rz l1 l2 q2
def DKw (X : Cx) (B : Hp) (kws : List Keyword) (t : TDA) : Prop := ∃ tk, PK X kws tk ∧ LA X.K B tk t
theorem dk_one {nm : Option Str} {kpos : Pos} {te : TDE} (h : DE X B e te) : DKw X B [⟨nm, e, kpos⟩] (dCons te dNil) := by
  obtain ⟨t1, p1, l1⟩ := h
  refine ⟨_, pk_cons p1 pk_nil, fun σ H δ G Q Q' R h k => l1 σ H δ G _ _ R h fun x H1 d G1 t1 g1 r1 h1 => ?_⟩
  exact k _ H1 _ G1 t1 g1 (.cons r1 .nil) h1
def dCallK (n m : Nat) (dsp : DSp) (WD : XDW) (t tk : TDA) : TDE := fun δ G Q => t δ G fun ds G1 => tk δ G1 fun ks G2 => ds.length = n ∧ ks.length = m ∧ dsp (ds ++ ks) G2 Q fun C fs G3 => WD C fs δ G3
theorem de_cfk (F : OkFd X.prog X.w X.K X.mg X.base k f ps dsp dvs ks) (hr : Room j X.A) (hm : X.mg x = some (.ref f)) (hx : XOk X B WD) (ha : DA X B (e :: es) ta) (hkw : DKw X B kws tka) (hk : k ≤ j := by decide) (hg : Gl X x := by rfl)
    (hall : (backToKw pos (keywordEach kws X.env)).all (·.1.isSome) = true := by rfl) (hks : (backToKw pos (keywordEach kws X.env)).filterMap (·.1) = ks := by rfl)
    (hdb : (x == ("__debug__" : Str)) = false := by decide) (he : starEach (e :: es) X.env = (false, eval e X.env) :: starEach es X.env := by rfl)
    (hpl : ((backTo pos (starEach (e :: es) X.env)).any (·.1) || (backToKw pos (keywordEach kws X.env)).any (·.1.isNone)) = false := by rfl) :
    DE X B (.Call (.Name x p) (e :: es) kws pos) (dCallK (ps.length - ks.length) ks.length dsp WD ta tka) := by
  obtain ⟨fd, F, _, ⟨g, hb⟩, kp⟩ := F
  obtain ⟨t1, p1, l1⟩ := ha
  obtain ⟨t2, p2, l2⟩ := hkw
  obtain ⟨W, tk, hW⟩ := hx.ex
  refine ⟨_, pe_callNd F (hr.mono hk) hg hm kp hb (fun σ => passAt tk σ) p1 p2 hall hks hdb he hpl, fun σ H δ G Q Q' R h k => l1 σ H δ G _ _ R h fun vs H1 ds G1 t1 g1 r1 h1 => l2 σ H1 δ G1 _ _ (R.next t1 g1) h1 fun zs H2 ks' G2 t2 g2 r2 h2 => ?_⟩
  obtain ⟨e1, e2, h2⟩ := h2
  refine ⟨by rw [← r1.length]; exact e1, by rw [← r2.length]; exact e2, ds ++ ks', G2, Q, _, g2, (r1.mono t2).app r2, h2, (k.mono t1).mono t2, fun C fs od G' H' t3 g3 x w => hW C fs od δ G' σ H' (((R.next t1 g1).next t2 g2).next t3 g3) x w⟩
end
/-! ### range(a, b, -1) -/
def dwD (hi : Int) (n : Nat) : List D := (List.range n).map fun (i : Nat) => dI (hi - (i : Int))
theorem dwD_len (hi : Int) (n : Nat) : (dwD hi n).length = n := by simp [dwD]
theorem dwD_of {hi : Int} {n i : Nat} {d : D} (h : (dwD hi n)[i]? = some d) : i < n ∧ d = dI (hi - (i : Int)) := by
  have hl : i < n := by have := (List.getElem?_eq_some_iff.mp h).1; rwa [dwD_len] at this
  unfold dwD at h
  rw [List.getElem?_map, List.getElem?_range hl] at h
  exact ⟨hl, (Option.some.inj h).symm⟩
def iDownD (ta : TDA) : TDI := fun δ G R => ta δ G fun ds G1 => match ds with
  | [.at (.int i), .at (.int j), .at (.int c)] => c = -1 ∧ (-(2 ^ 62) ≤ i ∧ i < 2 ^ 62 ∧ -(2 ^ 62) ≤ j ∧ j < 2 ^ 62) ∧ R (dwD i (i - j).toNat) (fun _ => True) G1
  | _ => False
section
variable {X : Cx} {B : Hp} {tg : Expr} {K : PySem.W.Frag}
theorem di_down {a b c : Expr} {ta : TDA} {p pos : Pos} (hg : Gl X "range") (hm : X.mg "range" = none) (ha : DA X B [a, b, c] ta)
    (hs : starEach [a, b, c] X.env = (false, eval a X.env) :: starEach [b, c] X.env := by rfl) (hpl : (backTo pos (starEach [b, c] X.env)).any (·.1) = false := by rfl) : DI X B tg (.Call (.Name "range" p) [a, b, c] [] pos) (iDownD ta) := by
  obtain ⟨t1, p1, l1⟩ := ha
  refine ⟨_, pi_range3 hg hm p1 hs hpl, fun σ H δ G R R' Rr h k => l1 σ H δ G _ _ Rr h fun vs H1 ds G1 t1 g1 r1 h1 => ?_⟩
  split at h1
  · rename_i i j c
    obtain ⟨rfl, ⟨b1, b2, b3, b4⟩, h1⟩ := h1
    cases r1 with
    | cons ra r1 =>
      obtain ⟨v, w, rfl, rb, rc⟩ := r1.two
      refine ⟨i, j, -1, _, by rw [ra.at_, rb.at_, rc.at_], RgC.neg b1 b2 b3 b4, k _ _ _ G1 H1 t1 g1 ?_ h1⟩
      refine ⟨fun m G H t g _ hi => by rw [dwD_len] at hi; exact hi, fun m G H x H' t g _ hi y => ?_, fun G H t g _ => by show _ ≤ _; rw [dwD_len]; exact Nat.le_refl _, fun _ _ _ _ => trivial⟩
      obtain ⟨rfl, rfl⟩ := y
      rw [dwD_len] at hi
      refine ⟨dI (i - (m : Int)), ?_, Tp.refl _, g, ?_⟩
      · unfold dwD
        rw [List.getElem?_map, List.getElem?_range hi]
        rfl
      · have e : i + (m : Int) * -1 = i - m := by omega
        rw [e]
        exact .at _
  · exact h1.elim
/-! ### xs[::-1] -/
def dRev (to : TDE) : TDE := fun δ G Q => to δ G fun o G1 => match o with
  | .at (.ref a) => ∃ xs, G1 a = some (.lst xs) ∧ ∀ p, G1 p = none → Q (dR p) (gu G1 p (.lst xs.reverse))
  | _ => False
theorem Rps.rev {H : Hp} : ∀ {ds : List D} {vs : List V}, Rps K H ds vs → Rps K H ds.reverse vs.reverse
  | _, _, .nil => .nil
  | _, _, .cons h r => by
    rw [List.reverse_cons, List.reverse_cons]
    exact (Rps.rev r).app (.cons h .nil)
theorem de_rev {e : Expr} {to : TDE} {k : Nat} {p1 p2 p3 pos : Pos} (he : DE X B e to) : DE X B (.Subscript e (.Slice none none (some (.UnaryOp .USub (.Constant (.int 1) k p1) p2)) p3) pos) (dRev to) := by
  obtain ⟨t1, q1, l1⟩ := he
  refine ⟨_, pe_revL q1, fun σ H δ G Q Q' R h k => l1 σ H δ G _ _ R h fun x H1 d G1 t1 g1 r1 h1 => ?_⟩
  split at h1
  · rename_i a
    obtain ⟨xs, e0, h1⟩ := h1
    obtain ⟨vs, e1, r⟩ := g1.lst e0
    exact ⟨a, vs, r1.at_, SqL.of e1, fun p hp => new_lst g1 r.rev hp h1 (k.mono t1)⟩
  · exact h1.elim
theorem u65_of {k : Nat} {A : Around} (r : Room k A) : A.units + 65 < cLine := by have := r.un; omega
/-! ### data in a list of data -/
def dInDF (f : Bool → Bool) : RD2 := fun x y G Q => ∃ d ds, DPy G x d ∧ DPy G y (.list ds) ∧ shp d = true ∧ shp (.list ds) = true ∧ Q (dB (f (ds.any fun z => PyData.eqv z d))) G
theorem lr_inD : LR K (rInD K) (dInDF id) := fun H G x y v u Q Q' hg rx ry h k => by
  obtain ⟨d, ds, h1, h2, h3, h4, h⟩ := h
  exact ⟨d, ds, h1.dp hg rx, h2.dp hg ry, h3, h4, k _ H _ G (Tp.refl H) hg (.at _) h⟩
theorem lr_notinD : LR K (rNotInD K) (dInDF not) := fun H G x y v u Q Q' hg rx ry h k => by
  obtain ⟨d, ds, h1, h2, h3, h4, h⟩ := h
  exact ⟨d, ds, h1.dp hg rx, h2.dp hg ry, h3, h4, k _ H _ G (Tp.refl H) hg (.at _) h⟩
end
end Dl

set_option Elab.async false
set_option linter.all false
set_option maxRecDepth 100000
set_option maxHeartbeats 4000000
/-! The data layer: more readings computed by simp. -/
namespace Dl
open PySem PySem.Spec PyProof.Rows L2
@[simp] theorem s_dNever (z0 : DEnds) (z1 : DSt) (z2 : GH) : dNever  z0 z1 z2 = (False) := rfl
@[simp] theorem s_dInNF (K : PySem.W.Frag) (f : Bool → Bool) (x : D) (y : D) (G : GH) (Q : DK) : dInNF K f x y G Q = (match y with
  | .at (.ref d) => ∃ kvs k, IsNd K G d kvs ∧ okK k = true ∧ x = kD k ∧ Q (dB (f (valD kvs k).isSome)) G
  | _ => False) := rfl
@[simp] theorem s_dGetN (K : PySem.W.Frag) (x : D) (y : D) (G : GH) (Q : DK) : dGetN K x y G Q = (match x with
  | .at (.ref d) => ∃ kvs k dd, IsNd K G d kvs ∧ okK k = true ∧ y = kD k ∧ valD kvs k = some dd ∧ Q dd G
  | _ => False) := rfl
@[simp] theorem s_dGet2N (K : PySem.W.Frag) (to : TDE) (t : TDA) (δ : DSt) (G : GH) (Q : DK) : dGet2N K to t δ G Q = (to δ G fun o G1 => match o with
  | .at (.ref d) => (∃ kvs, IsNd K G1 d kvs) ∧ t δ G1 fun ds G2 => match ds with
    | [y, z] => ∃ kvs k, IsNd K G2 d kvs ∧ okK k = true ∧ y = kD k ∧ Q ((valD kvs k).getD z) G2
    | _ => False
  | _ => False) := rfl
@[simp] theorem s_dSetN (K : PySem.W.Frag) (o : D) (i : D) (d : D) (G : GH) (Q : GH → Prop) : dSetN K o i d G Q = (match o with
  | .at (.ref p) => ∃ kvs k, G p = some (dNd K p kvs) ∧ okK k = true ∧ i = kD k ∧ kvs.length < zL ∧ Q (gu G p (dNd K p (putD kvs k d)))
  | _ => False) := rfl
@[simp] theorem s_gSN (K : PySem.W.Frag) (to ti : TDE) (d : D) (δ : DSt) (G : GH) (Q : DSt → GH → Prop) : gSN K to ti d δ G Q = (to δ G fun o G1 => ti δ G1 fun i G2 => dSetN K o i d G2 fun G3 => Q δ G3) := rfl
@[simp] theorem s_dNewN (K : PySem.W.Frag) (z0 : DSt) (G : GH) (Q : DK) : dNewN K z0 G Q = (∀ p, G p = none → Q (dR p) (gu G p (dNd K p []))) := rfl
@[simp] theorem s_d1N (K : PySem.W.Frag) (tk tv : TDE) (δ : DSt) (G : GH) (Q : DK) : d1N K tk tv δ G Q = (∀ p, G p = none → tk δ (gu G p (dNd K p [])) fun y G1 => tv δ G1 fun z G2 => ∃ k, okK k = true ∧ y = kD k ∧ G2 p = some (dNd K p []) ∧ Q (dR p) (gu G2 p (dNd K p [(k, z)]))) := rfl
@[simp] theorem s_iItmN (K : PySem.W.Frag) (te : TDE) (δ : DSt) (G : GH) (R : List D → (GH → Prop) → GH → Prop) : iItmN K te δ G R = (te δ G fun x G1 => match x with
  | .at (.ref d) => ∃ kvs, G1 d = some (dNd K d kvs) ∧ ∀ ob, R (itemsN kvs) (fun G => G d = some (dNdL K d ob kvs)) (gu G1 d (dNdL K d ob kvs))
  | _ => False) := rfl
@[simp] theorem s_iKysN (K : PySem.W.Frag) (te : TDE) (δ : DSt) (G : GH) (R : List D → (GH → Prop) → GH → Prop) : iKysN K te δ G R = (te δ G fun x G1 => match x with
  | .at (.ref d) => ∃ kvs, G1 d = some (dNd K d kvs) ∧ ∀ ob, R (kvs.map fun p => kD p.1) (fun G => G d = some (dNdL K d ob kvs)) (gu G1 d (dNdL K d ob kvs))
  | _ => False) := rfl
@[simp] theorem s_dSortN (K : PySem.W.Frag) (ds : List D) (G : GH) (Q : DK) : dSortN K ds G Q = (match ds with
  | [.at (.ref d)] => ∃ kvs, IsNd K G d kvs ∧ (kvs.length ≤ 1 ∨ (PySem.W.AllAlike (kvs.map fun p => py (kD p.1)) ∧ PySem.W.Sortable (kvs.map fun p => py (kD p.1)))) ∧ (∀ p ∈ kvs, (py (kD p.1)).depth ≤ 9) ∧
    ∀ p, G p = none → Q (dR p) (gu G p (.lst ((kvs.map fun p => kD p.1).mergeSort (PySem.W.dataLe false py))))
  | _ => False) := rfl
@[simp] theorem s_dVals (K : PySem.W.Frag) (to : TDE) (δ : DSt) (G : GH) (Q : DK) : dVals K to δ G Q = (to δ G fun o G1 => match o with
  | .at (.ref d) => (∃ kvs, IsNd K G1 d kvs) ∧ ∀ p, G1 p = none → Q (dR p) (gu G1 p (.raw (VwO p d)))
  | _ => False) := rfl
@[simp] theorem s_dMinVI (K : PySem.W.Frag) (ds : List D) (G : GH) (Q : DK) : dMinVI K ds G Q = (match ds with
  | [.at (.ref p)] => ∃ d kvs, ∃ ns : List Int, G p = some (.raw (VwO p d)) ∧ IsNd K G d kvs ∧ kvs.map (·.2) = ns.map dI ∧ ns ≠ [] ∧ ∀ m, m ∈ ns → (∀ y ∈ ns, m ≤ y) → Q (dI m) G
  | _ => False) := rfl
@[simp] theorem s_dCallD (dsp : DSp) (dd : List D) (WD : XDW) (t : TDA) (δ : DSt) (G : GH) (Q : DK) : dCallD dsp dd WD t δ G Q = (t δ G fun ds G1 => dsp (ds ++ dd) G1 Q fun C fs G2 => WD C fs δ G2) := rfl
@[simp] theorem s_dCallK (n m : Nat) (dsp : DSp) (WD : XDW) (t tk : TDA) (δ : DSt) (G : GH) (Q : DK) : dCallK n m dsp WD t tk δ G Q = (t δ G fun ds G1 => tk δ G1 fun ks G2 => ds.length = n ∧ ks.length = m ∧ dsp (ds ++ ks) G2 Q fun C fs G3 => WD C fs δ G3) := rfl
@[simp] theorem s_iDownD (ta : TDA) (δ : DSt) (G : GH) (R : List D → (GH → Prop) → GH → Prop) : iDownD ta δ G R = (ta δ G fun ds G1 => match ds with
  | [.at (.int i), .at (.int j), .at (.int c)] => c = -1 ∧ (-(2 ^ 62) ≤ i ∧ i < 2 ^ 62 ∧ -(2 ^ 62) ≤ j ∧ j < 2 ^ 62) ∧ R (dwD i (i - j).toNat) (fun _ => True) G1
  | _ => False) := rfl
@[simp] theorem s_dRev (to : TDE) (δ : DSt) (G : GH) (Q : DK) : dRev to δ G Q = (to δ G fun o G1 => match o with
  | .at (.ref a) => ∃ xs, G1 a = some (.lst xs) ∧ ∀ p, G1 p = none → Q (dR p) (gu G1 p (.lst xs.reverse))
  | _ => False) := rfl
@[simp] theorem s_dInDF (f : Bool → Bool) (x : D) (y : D) (G : GH) (Q : DK) : dInDF f x y G Q = (∃ d ds, DPy G x d ∧ DPy G y (.list ds) ∧ shp d = true ∧ shp (.list ds) = true ∧ Q (dB (f (ds.any fun z => PyData.eqv z d))) G) := rfl
end Dl

set_option Elab.async false
set_option linter.all false
set_option maxRecDepth 100000
set_option maxHeartbeats 4000000
/-! The data layer: more of lists: remove, pop at a place, of a range. -/
namespace Dl
open PySem PySem.Spec PyProof.Rows L2
section
variable {X : Cx} {B : Hp} {K : PySem.W.Frag}
theorem erase_first : ∀ {ns : List Int} {k : Int}, k ∈ ns → ∃ j, ns[j]? = some k ∧ (∀ m : Nat, m < j → ns[m]? ≠ some k) ∧ ns.erase k = ns.eraseIdx j
  | n :: ns, k, h => by
    by_cases e : n = k
    · subst e
      exact ⟨0, rfl, fun m hm => absurd hm (Nat.not_lt_zero m), by simp⟩
    · obtain ⟨j, h1, h2, h3⟩ := erase_first ((List.mem_cons.mp h).resolve_left fun z => e z.symm)
      refine ⟨j + 1, by simpa using h1, fun m hm => ?_, ?_⟩
      · cases m with
        | zero => simpa using e
        | succ m => simpa using h2 m (by omega)
      · rw [List.erase_cons_tail (by simpa using e), h3]
        rfl
def dRemove : RDM := fun x ds G Q => match x, ds with
  | .at (.ref a), [.at (.int k)] => ∃ ns : List Int, G a = some (.lst (ns.map dI)) ∧ k ∈ ns ∧ Q dN (gu G a (.lst ((ns.erase k).map dI)))
  | _, _ => False
theorem lm_remove : LM K rRemI dRemove := fun H G d ds v vs Q Q' g rd rds h k => by
  unfold dRemove at h
  split at h
  · rename_i a i
    obtain ⟨u, rfl, ru⟩ := rds.one
    obtain ⟨ns, e, hi, h⟩ := h
    obtain ⟨us, e1, r2⟩ := g.lst e
    obtain ⟨j, h1, h2, h3⟩ := erase_first hi
    have eu := rps_ints r2
    subst eu
    have tp : Tp H (upd H a (.lst ((ns.eraseIdx j).map V.int))) := Tp.set e1 trivial
    refine ⟨a, ns, i, j, rd.at_, by rw [ru.at_], e1, h1, h2, k _ _ _ _ tp (g.set (m := .lst ((ns.erase i).map dI)) e e1 trivial ⟨rfl, _, rfl, ?_⟩) (.at _) h⟩
    rw [h3]
    exact rps_map V.int _
  · exact h.elim
theorem Rps.eraseIdx {H : Hp} : ∀ {ds : List D} {vs : List V} (j : Nat), Rps K H ds vs → Rps K H (ds.eraseIdx j) (vs.eraseIdx j)
  | _, _, _, .nil => .nil
  | _, _, 0, .cons h r => r
  | _, _, j + 1, .cons h r => .cons h (Rps.eraseIdx j r)
def dPopAt : RDM := fun x ds G Q => match x, ds with
  | .at (.ref a), [.at (.int i)] => ∃ xs y, ∃ n : Nat, G a = some (.lst xs) ∧ i = n ∧ n < 1000000 ∧ xs[n]? = some y ∧ Q y (gu G a (.lst (xs.eraseIdx n)))
  | _, _ => False
theorem lm_popAt : LM K rPopAt dPopAt := fun H G d ds v vs Q Q' g rd rds h k => by
  unfold dPopAt at h
  split at h
  · rename_i a i
    obtain ⟨u, rfl, ru⟩ := rds.one
    obtain ⟨xs, y, n, e, rfl, hn, hy, h⟩ := h
    obtain ⟨us, e1, r2⟩ := g.lst e
    have hl := (List.getElem?_eq_some_iff.mp hy).1
    obtain ⟨z, hz, rz⟩ := r2.get hy
    have tp : Tp H (upd H a (.lst (us.eraseIdx n))) := Tp.set e1 trivial
    have hul : us.length = xs.length := r2.length.symm
    refine ⟨a, us, n, n, z, rd.at_, by rw [ru.at_], e1, by omega, by omega, ?_, hz, k _ _ _ _ tp (g.set (m := .lst (xs.eraseIdx n)) e e1 trivial ⟨rfl, _, rfl, (r2.mono tp).eraseIdx n⟩) (rz.mono tp) h⟩
    unfold seqIndex?
    rw [hul]
    have h1 : ¬ ((n : Int) < 0) := by omega
    simp only [if_neg h1]
    have h2 : (decide (0 ≤ (n : Int)) && decide ((n : Int) < (xs.length : Nat))) = true := by simp; omega
    rw [if_pos h2]
    simp
  · exact h.elim
/-! list(range(n)) -/
def dLstRg (ta : TDA) : TDE := fun δ G Q => ta δ G fun ds G1 => match ds with
  | [.at (.int j)] => 0 ≤ j ∧ j ≤ 1000 ∧ ∀ p, G1 p = none → Q (dR p) (gu G1 p (.lst (rgD 0 j.toNat)))
  | _ => False
theorem rps_rg {H : Hp} (j : Int) : Rps K H (rgD 0 j.toNat) (rgV 0 j) := by
  unfold rgD rgV
  rw [Int.sub_zero]
  have e : (List.range j.toNat).map (fun (i : Nat) => dI (0 + (i : Int))) = ((List.range j.toNat).map fun (i : Nat) => (0 + (i : Int))).map dI := by rw [List.map_map]; rfl
  have e2 : (List.range j.toNat).map (fun (i : Nat) => V.int (0 + (i : Int))) = ((List.range j.toNat).map fun (i : Nat) => (0 + (i : Int))).map V.int := by rw [List.map_map]; rfl
  rw [e, e2]
  exact rps_map V.int _
theorem de_listRg {a : Expr} {te : TDE} {p p1 pos pos1 : Pos} (hc : X.calm = true) (hg : Gl X "list") (hm : X.mg "list" = none) (hg2 : Gl X "range") (hm2 : X.mg "range" = none) (ha : DE X B a te)
    (hs : starEach [a] X.env = (false, eval a X.env) :: starEach [] X.env := by rfl)
    (hs2 : starEach [.Call (.Name "range" p1) [a] [] pos1] X.env = (false, eval (.Call (.Name "range" p1) [a] [] pos1) X.env) :: starEach [] X.env := by rfl) :
    DE X B (.Call (.Name "list" p) [.Call (.Name "range" p1) [a] [] pos1] [] pos) (dLstRg (dCons te dNil)) := by
  obtain ⟨t1, p1, l1⟩ := ha
  refine ⟨_, pe_listRg hc hg hm (prg_1 hg2 hm2 p1 hs) hs2, fun σ H δ G Q Q' R h k => ?_⟩
  unfold tLstRg tRg1
  refine l1 σ H δ G _ _ R h fun x H1 d G1 t1 g1 r1 h1 => ?_
  simp only [s_dNil] at h1
  split at h1
  · rename_i j e
    injection e with e _
    subst e
    obtain ⟨h0, h2, h1⟩ := h1
    have ex := r1.at_
    subst ex
    refine ⟨j, rfl, ⟨by omega, by omega, by omega, by omega, by omega⟩, fun q hq => new_lst g1 (rps_rg j) hq h1 (k.mono t1)⟩
  · exact h1.elim
end
@[simp] theorem s_dRemove (x : D) (ds : List D) (G : GH) (Q : DK) : dRemove x ds G Q = (match x, ds with
  | .at (.ref a), [.at (.int k)] => ∃ ns : List Int, G a = some (.lst (ns.map dI)) ∧ k ∈ ns ∧ Q dN (gu G a (.lst ((ns.erase k).map dI)))
  | _, _ => False) := rfl
@[simp] theorem s_dPopAt (x : D) (ds : List D) (G : GH) (Q : DK) : dPopAt x ds G Q = (match x, ds with
  | .at (.ref a), [.at (.int i)] => ∃ xs y, ∃ n : Nat, G a = some (.lst xs) ∧ i = n ∧ n < 1000000 ∧ xs[n]? = some y ∧ Q y (gu G a (.lst (xs.eraseIdx n)))
  | _, _ => False) := rfl
@[simp] theorem s_dLstRg (ta : TDA) (δ : DSt) (G : GH) (Q : DK) : dLstRg ta δ G Q = (ta δ G fun ds G1 => match ds with
  | [.at (.int j)] => 0 ≤ j ∧ j ≤ 1000 ∧ ∀ p, G1 p = none → Q (dR p) (gu G1 p (.lst (rgD 0 j.toNat)))
  | _ => False) := rfl
end Dl

set_option Elab.async false
set_option linter.all false
set_option maxRecDepth 100000
set_option maxHeartbeats 4000000
/-! The data layer: how many a set of a tuple of numbers has; a list backwards by a step that is worked out. -/
namespace Dl
open PySem PySem.Spec PyProof.Rows L2
section
variable {X : Cx} {B : Hp}
/-- xs[::0 - 1] -/
theorem pe_revS {e : Expr} {te : TE} {k k2 : Nat} {p1 p2 p3 p4 pos : Pos} (he : PE X e te) : PE X (.Subscript e (.Slice none none (some (.BinOp (.Constant (.int 0) k p1) .Sub (.Constant (.int 1) k2 p4) p2)) p3) pos) (tRevL X.K te) := by
  refine ⟨fun pins s σ H Q I h => ?_⟩
  refine Subscript_ (thn (he.run pins s σ H _ I h) fun v s1 ⟨x, H1, I1, r1, q1⟩ => ?_)
  obtain ⟨a, xs, ex, hx, q⟩ := q1
  subst ex
  cases r1
  have hst := po_some (X := X) (pe_op (pos := p2) (op_sub (X := X)) (pe_int (i := 0) (j := k) (pos := p1)) (pe_int (i := 1) (j := k2) (pos := p4)))
  refine wpAny_Slice (thn (po_none.run pins s1 σ H1 (fun o H2 => o = none ∧ H2 = H1) I1 ⟨rfl, rfl⟩) fun vl s2 ⟨l, H2, I2, pl, el, e2⟩ => ?_)
  subst el e2
  refine thn (po_none.run pins s2 σ H2 (fun o H3 => o = none ∧ H3 = H2) I2 ⟨rfl, rfl⟩) fun vu s3 ⟨u, H3, I3, pu, eu, e3⟩ => ?_
  subst eu e3
  refine thn (hst.run pins s3 σ H3 (fun o H4 => o = some (-1) ∧ H4 = H3) I3 ⟨0, 1, rfl, rfl, -1, rfl, rfl, rfl⟩) fun vs s4 ⟨o, H4, I4, ps, eo, e4⟩ => ?_
  subst eo e4
  have I5 : Inv X pins σ H4 { s4 with heap := s4.heap.push { cls := .type "slice", data := .fields #[vl, vu, vs] } } := I4.kept (t' := s4.toks) fun b ob q => Heap.get?_push_of_some _ q
  obtain ⟨its, r, ht, hz⟩ := I5.list hx
  have hlen := r.length
  show wpAny (model X.prog X.w) X.A (subscriptTail e (.Slice none none (some (.BinOp (.Constant (.int 0) k p1) .Sub (.Constant (.int 1) k2 p4) p2)) p3) (.ref a) (.ref s4.heap.objs.size)) (EP X pins σ Q) X.xe { s4 with heap := s4.heap.push { cls := .type "slice", data := .fields #[vl, vu, vs] } }
  refine tail_any (ops := [.ref a, .ref s4.heap.objs.size]) ht.isList.typeIs (PySem.slot_list_getitem.lookup) ?_ (by with_unfolding_all rfl)
  refine wpAny_getItem_list_slice ht.isList (Heap.IsSliceOf.new _ vl vu vs) pl pu ps (by decide) ?_ (by rw [List.size_toArray]; omega)
  rw [PySem.W.krv_pick]
  refine ⟨.ref _, _, I5.laid (t' := s4.toks) (o := .lst xs.reverse) (fun b ob q => Heap.get?_push_of_some _ q) (Nat.le_refl _) ?_, rfl, q _ (I5.hok.fresh (Nat.le_refl _))⟩
  exact ⟨by rw [List.length_reverse]; exact hz, _, 0, r.reverse, Heap.get?_push_size _ rfl⟩
theorem de_revS {e : Expr} {to : TDE} {k k2 : Nat} {p1 p2 p3 p4 pos : Pos} (he : DE X B e to) : DE X B (.Subscript e (.Slice none none (some (.BinOp (.Constant (.int 0) k p1) .Sub (.Constant (.int 1) k2 p4) p2)) p3) pos) (dRev to) := by
  obtain ⟨t1, q1, l1⟩ := he
  refine ⟨_, pe_revS q1, fun σ H δ G Q Q' R h k => l1 σ H δ G _ _ R h fun x H1 d G1 t1 g1 r1 h1 => ?_⟩
  split at h1
  · rename_i a
    obtain ⟨xs, e0, h1⟩ := h1
    obtain ⟨vs, e1, r⟩ := g1.lst e0
    exact ⟨a, vs, r1.at_, SqL.of e1, fun p hp => new_lst g1 r.rev hp h1 (k.mono t1)⟩
  · exact h1.elim
/-- how many differing ones -/
def Diff (ns : List Int) (c : Nat) : Prop := ∃ ks : List Int, ks.Nodup ∧ (∀ k, k ∈ ks ↔ k ∈ ns) ∧ ks.length = c
def dLenSet (te : TDE) : TDE := fun δ G Q => te δ G fun d G1 => ∃ ns : List Int, d = .tup (ns.map dI) ∧ ns.length ≤ 4000 ∧ ∀ c, Diff ns c → Q (dI (c : Nat)) G1
def tLenSetI (K : PySem.W.Frag) (ta : TE) : TE := fun σ H Q => ta σ H fun x H1 => ∃ l, ∃ ns : List Int, x = .ref l ∧ SqT K H1 l (ns.map V.int) ∧ ns.length ≤ 4000 ∧ ∀ c, Diff ns c → Q (.int (c : Nat)) H1
theorem pe_lenSetI {a : Expr} {ta : TE} {p p2 q pos : Pos} (hc : X.calm = true) (hg : Gl X "len") (hm : X.mg "len" = none) (hg2 : Gl X "set") (hm2 : X.mg "set" = none) (ha : PE X a ta)
    (na : starEach [a] X.env = (false, eval a X.env) :: starEach [] X.env := by rfl) : PE X (.Call (.Name "len" p) [.Call (.Name "set" p2) [a] [] q] [] pos) (tLenSetI X.K ta) := by
  refine ⟨fun pins s σ H Q I h => ?_⟩
  refine Call_ (ld_blt I hg hm boot_len ?_)
  refine PyProof.Rows.callWith_builtin1 (PyProof.Rows.args_cons ?_ rfl) rfl rfl
  refine Call_ (ld_blt I hg2 hm2 boot_set ?_)
  refine PyProof.Rows.callWith_type1 (PyProof.Rows.args_cons (thn (ha.run pins s σ H _ I h) fun v s1 ⟨x, H1, I1, r1, q1⟩ => PyProof.Rows.args_nil ?_) na) na rfl
  obtain ⟨l, ns, rfl, hq, h1, q1⟩ := q1
  cases r1
  obtain ⟨its, r, pl, hz⟩ := I1.tuple hq
  refine call_set_tupI ns (I1.ok.hd hc) pl (by simpa using ints_of_vals r) (by show ns.length + 1 < 4096; omega) fun h' tk c hS hc' hk => ?_
  refine PyProof.Rows.args_nil ?_
  obtain ⟨o, es, ep, t, ho, hex, hd, _, hnd, hmem, _, hf, hn, _⟩ := hS
  have I2 : Inv X pins σ H1 { s1 with heap := h', toks := tk } := I1.kept fun b o e => hk b o e
  refine call_len_set ho hex hd hf (by rw [hn] <;> omega) ⟨.int c, H1, I2.tok _, ⟨_, by rw [hn]⟩, q1 c ⟨_, hnd, fun k => ?_, ?_⟩⟩
  · rw [← hmem k, decide_eq_true_eq]
  · rw [List.length_map, Array.length_toList, hn]
theorem de_lenSet {a : Expr} {ta : TDE} {p p2 q pos : Pos} (hc : X.calm = true) (hg : Gl X "len") (hm : X.mg "len" = none) (hg2 : Gl X "set") (hm2 : X.mg "set" = none) (ha : DE X B a ta)
    (na : starEach [a] X.env = (false, eval a X.env) :: starEach [] X.env := by rfl) : DE X B (.Call (.Name "len" p) [.Call (.Name "set" p2) [a] [] q] [] pos) (dLenSet ta) := by
  obtain ⟨t1, p1, l1⟩ := ha
  refine ⟨_, pe_lenSetI hc hg hm hg2 hm2 p1 na, fun σ H δ G Q Q' R h k => l1 σ H δ G _ _ R h fun v H1 d G1 t1 g1 r1 h1 => ?_⟩
  obtain ⟨ns, rfl, hz, h2⟩ := h1
  obtain ⟨a, vs, rfl, hs, rr⟩ := r1.tup_
  have e := rps_ints rr
  subst e
  exact ⟨a, ns, rfl, hs, hz, fun c hc => k _ H1 _ G1 t1 g1 (.at _) (h2 c hc)⟩
end
end Dl

set_option Elab.async false
set_option linter.all false
set_option maxRecDepth 100000
set_option maxHeartbeats 4000000
/-! What the program's defs compute: the rules. -/
namespace Cb
open PySem PySem.Spec PyProof.Rows L2 Dl
/-! ### the model -/
abbrev Row := Int × Int
abbrev Sta := List Row × Nat
def eRow (r : Row) : D := .tup [dI r.1, dI r.2]
def eRows (rs : List Row) : D := .tup (rs.map eRow)
def eSta (s : Sta) : D := .tup [eRows s.1, dI s.2]
def ruleIx : List Str := ["came", "used", "last", "often", "clock", "high"]
def numB (d : D) (lo hi : Int) : Bool := match d with
  | .at (.int i) => decide (lo ≤ i) && decide (i ≤ hi)
  | _ => false
/-! ### promises -/
def dsp_is_number (K : PySem.W.Frag) : DSp := fun ds G Q _ => ∃ d lo hi k, ds = [d, dI lo, dI hi] ∧ kiD d G = some k ∧ Q (dB (numB d lo hi)) G
def dsp_need_rule (K : PySem.W.Frag) : DSp := fun ds G Q E => ∃ r, ds = [dS r] ∧ (r ∈ ruleIx → Q dN G) ∧ (r ∉ ruleIx → E (He.ga K "BadRule") [] G)
def dsp_need_size (K : PySem.W.Frag) : DSp := fun ds G Q E => ∃ i, ds = [dI i] ∧ ((1 ≤ i ∧ i ≤ 6) → Q dN G) ∧ (¬ (1 ≤ i ∧ i ≤ 6) → E (He.ga K "BadSize") [] G)
def dsp_pages_of (K : PySem.W.Frag) : DSp := fun ds G Q _ => ∃ s : Sta, ds = [eSta s] ∧ s.1.length ≤ 1000 ∧ ∀ p, G p = none → Q (dR p) (gu G p (.lst (s.1.map fun r => dI r.1)))
def dsp_started (K : PySem.W.Frag) : DSp := fun ds G Q _ => ds = [] ∧ Q (eSta ([], 0)) G
def pagesS (s : Sta) : List Int := s.1.map (·.1)
def hitF (r : Str) (s : Sta) (p : Int) : Sta :=
  if r = "used" ∨ r = "last" then (s.1.filter (fun x => decide (x.1 ≠ p)) ++ [(p, 0)], s.2)
  else if r = "often" then (s.1.map fun x => (x.1, x.2 + if x.1 = p then 1 else 0), s.2)
  else if r = "clock" then (s.1.map fun x => (x.1, if x.1 = p then 1 else x.2), s.2)
  else s
def dsp_hit (K : PySem.W.Frag) : DSp := fun ds G Q _ => ∃ r s p, ds = [dS r, eSta s, dI p] ∧ s.1.length ≤ 1000 ∧ Q (eSta (hitF r s p)) G
abbrev N_is_number : List Str := ["thing", "low", "high"]
abbrev ps_is_number : List Str := ["thing", "low", "high"]
@[simp] theorem st_is_number (x0 x1 x2 : D) : startD N_is_number [x0, x1, x2] = [some x0, some x1, some x2] := rfl
def t_is_number (K : PySem.W.Frag) (WD : XDW) : TDS := (dRet (dAndV (dIsi [.int] (dVar 0)) (dAndV (dNotV (dIsi [.bl] (dVar 0))) (dChain (dI0 fun i j => .bl (decide (i ≤ j))) (dI0 fun i j => .bl (decide (i ≤ j))) (dVar 1) (dVar 0) (dVar 2)))))
abbrev N_need_rule : List Str := ["rule"]
abbrev ps_need_rule : List Str := ["rule"]
@[simp] theorem st_need_rule (x0 : D) : startD N_need_rule [x0] = [some x0] := rfl
def t_need_rule (K : PySem.W.Frag) (WD : XDW) : TDS := (dIfS (dOr (dNot (dTest (dIsi [.str] (dVar 0)))) (dTest (dOp dNotin (dVar 0) (dC (.tup [dS "came", dS "used", dS "last", dS "often", dS "clock", dS "high"]))))) (dRaise WD (He.ga K "BadRule") []) dNext)
abbrev N_need_size : List Str := ["size"]
abbrev ps_need_size : List Str := ["size"]
@[simp] theorem st_need_size (x0 : D) : startD N_need_size [x0] = [some x0] := rfl
def t_need_size (K : PySem.W.Frag) (WD : XDW) : TDS := (dIfS (dNot (dTest (dCall (dsp_is_number K) WD (dCons (dVar 0) (dCons (dC (dI 1)) (dCons (dC (dI 6)) dNil)))))) (dRaise WD (He.ga K "BadSize") []) dNext)
abbrev N_pages_of : List Str := ["state", "page", "mark"]
abbrev ps_pages_of : List Str := ["state"]
@[simp] theorem st_pages_of (x0 : D) : startD N_pages_of [x0] = [some x0, none, none] := rfl
def t_pages_of (K : PySem.W.Frag) (WD : XDW) : TDS := (dRet (dLc K (iSeqD (dOp dIx (dVar 0) (dC (dI 0)))) (gT 2 (gC (gN 1) (gC (gN 2) gE))) dYes (dVar 1) [1, 2]))
abbrev N_started : List Str := []
abbrev ps_started : List Str := []
@[simp] theorem st_started : startD N_started [] = [] := rfl
def t_started (K : PySem.W.Frag) (WD : XDW) : TDS := (dRet (dTup (dCons (dTup dNil) (dCons (dC (dI 0)) dNil))))
abbrev N_hit : List Str := ["rule", "state", "page", "rows", "hand", "row", "one", "mark"]
abbrev ps_hit : List Str := ["rule", "state", "page"]
@[simp] theorem st_hit (x0 x1 x2 : D) : startD N_hit [x0, x1, x2] = [some x0, some x1, some x2, none, none, none, none, none] := rfl
def t_hit_1 (K : PySem.W.Frag) (WD : XDW) : TDS := (dRet (dVar 1))
def t_hit_2 (K : PySem.W.Frag) (WD : XDW) : TDS := (dSeq (dIfS (dTest (dOp dEq (dVar 0) (dC (dS "clock")))) (dRet (dTup (dCons (dBi dTuple (dCons (dLc K (iSeqD (dVar 3)) (gT 2 (gC (gN 6) (gC (gN 7) gE))) dYes (dTup (dCons (dVar 6) (dCons (dIfE (dTest (dOp dEq (dVar 6) (dVar 2))) (dC (dI 1)) (dVar 7)) dNil))) [6, 7]) dNil)) (dCons (dVar 4) dNil)))) dNext)
  (t_hit_1 K WD))
def t_hit_3 (K : PySem.W.Frag) (WD : XDW) : TDS := (dSeq (dIfS (dTest (dOp dEq (dVar 0) (dC (dS "often")))) (dRet (dTup (dCons (dBi dTuple (dCons (dLc K (iSeqD (dVar 3)) (gT 2 (gC (gN 6) (gC (gN 7) gE))) dYes (dTup (dCons (dVar 6) (dCons (dOp dAdd (dVar 7) (dBi dInt (dCons (dOp dEq (dVar 6) (dVar 2)) dNil))) dNil))) [6, 7]) dNil)) (dCons (dVar 4) dNil)))) dNext)
  (t_hit_2 K WD))
def t_hit_4 (K : PySem.W.Frag) (WD : XDW) : TDS := (dSeq (dIfS (dTest (dOp dIn (dVar 0) (dTup (dCons (dC (dS "used")) (dCons (dC (dS "last")) dNil))))) (dRet (dTup (dCons (dOp dAdd (dBi dTuple (dCons (dLc K (iSeqD (dVar 3)) (gN 5) (dTest (dOp dNe (dOp dIx (dVar 5) (dC (dI 0))) (dVar 2))) (dVar 5) [5]) dNil)) (dTup (dCons (dTup (dCons (dVar 2) (dCons (dC (dI 0)) dNil))) dNil))) (dCons (dVar 4) dNil)))) dNext)
  (t_hit_3 K WD))
def t_hit (K : PySem.W.Frag) (WD : XDW) : TDS := (dSeq (dAsg (dVar 1) (gT 2 (gC (gN 3) (gC (gN 4) gE))))
  (t_hit_4 K WD))
section
variable {K : PySem.W.Frag} {ds : List D} {G : GH} {QD : DK} {ED : XD}
theorem ret_same {Q : DK} {d : D} (h : Q d G) : ∃ G2, Ent K G G2 ∧ Q d G2 := ⟨G, Ent.refl G, h⟩
theorem ret_new {Q : DK} {d : D} {p : Addr} {m : MO} (hp : G p = none) (h : Q d G) : ∃ G2, Ent K (gu G p m) G2 ∧ Q d G2 := ⟨G, ent_new hp, h⟩
theorem exc_same {E : XD} {C : Addr} {fs : List (Str × D)} (h : E C fs G) : ∃ G2, Ent K G G2 ∧ E C fs G2 := ⟨G, Ent.refl G, h⟩
theorem len_is_number {Q : DK} {E : XD} (h : dsp_is_number K ds G Q E) : ds.length = ps_is_number.length := by
  obtain ⟨_, _, _, _, rfl, _⟩ := h; rfl
theorem pure_is_number (h : dsp_is_number K ds G QD ED) : t_is_number K (excD K ED) (retD K QD) (startD N_is_number ds) G := by
  obtain ⟨d, lo, hi, k, rfl, hk, hQ⟩ := h
  have hQ' := ret_same (K := K) hQ
  cases d with
  | «at» v =>
    cases v with
    | ref a =>
      have : k = .lst ∨ k = .dct := by
        have h2 : kiMO (G a) = some k := hk
        unfold kiMO at h2
        split at h2 <;> simp_all
      have hk2 : kiMO (G a) = some k := hk
      rcases this with rfl | rfl <;> simpa [t_is_number, kiD, hk2, Ki.is, numB] using hQ'
    | int i =>
      cases hk
      simp only [numB] at hQ'
      simp [t_is_number, kiD, Ki.is]
      refine ⟨fun h => ?_, fun h => ?_⟩
      · simpa [h] using hQ'
      · have e : decide (lo ≤ i) = false := by simpa using h
        simpa [e] using hQ'
    | non => cases hk; simpa [t_is_number, kiD, Ki.is, numB] using hQ'
    | bl b => cases hk; simpa [t_is_number, kiD, Ki.is, numB] using hQ'
    | str b => cases hk; simpa [t_is_number, kiD, Ki.is, numB] using hQ'
    | _ => cases hk
  | tup l => cases hk; simpa [t_is_number, kiD, Ki.is, numB] using hQ'
  | frl l => cases hk
theorem len_need_rule {Q : DK} {E : XD} (h : dsp_need_rule K ds G Q E) : ds.length = ps_need_rule.length := by
  obtain ⟨_, rfl, _⟩ := h; rfl
theorem pure_need_rule (h : dsp_need_rule K ds G QD ED) : t_need_rule K (excD K ED) (retD K QD) (startD N_need_rule ds) G := by
  obtain ⟨r, rfl, h1, h2⟩ := h
  by_cases hr : r ∈ ruleIx
  · have := ret_same (K := K) (h1 hr)
    simp [ruleIx] at hr
    rcases hr with rfl | rfl | rfl | rfl | rfl | rfl <;> simpa [t_need_rule, kiD, Ki.is, flatD, flatV, inD, inV, toV, eqV] using this
  · have := exc_same (K := K) (h2 hr)
    simp [ruleIx] at hr
    obtain ⟨a1, a2, a3, a4, a5, a6⟩ := hr
    simpa [t_need_rule, kiD, Ki.is, flatD, flatV, inD, inV, toV, eqV, Ne.symm a1, Ne.symm a2, Ne.symm a3, Ne.symm a4, Ne.symm a5, Ne.symm a6] using this
theorem len_need_size {Q : DK} {E : XD} (h : dsp_need_size K ds G Q E) : ds.length = ps_need_size.length := by
  obtain ⟨_, rfl, _⟩ := h; rfl
theorem pure_need_size (h : dsp_need_size K ds G QD ED) : t_need_size K (excD K ED) (retD K QD) (startD N_need_size ds) G := by
  obtain ⟨i, rfl, h1, h2⟩ := h
  simp only [t_need_size, s_dIfS, s_dNot, s_dTest, s_dCall, s_dCons, s_dNil, s_dVar, s_dC, st_need_size, gs_0]
  refine ⟨_, _, _, .int, rfl, rfl, ?_⟩
  simp only [numB]
  refine ⟨fun e => ?_, fun e => ?_⟩
  · have : ¬ (1 ≤ i ∧ i ≤ 6) := by
      simp at e
      omega
    exact exc_same (K := K) (h2 this)
  · have : 1 ≤ i ∧ i ≤ 6 := by simpa using e
    simpa using ret_same (K := K) (h1 this)
theorem len_pages_of {Q : DK} {E : XD} (h : dsp_pages_of K ds G Q E) : ds.length = ps_pages_of.length := by
  obtain ⟨_, rfl, _⟩ := h; rfl
theorem pure_pages_of (h : dsp_pages_of K ds G QD ED) : t_pages_of K (excD K ED) (retD K QD) (startD N_pages_of ds) G := by
  obtain ⟨⟨rows, hand⟩, rfl, hl, hQ⟩ := h
  simp [t_pages_of]
  refine dlc_pure (rows.map eRow) (fun d => match d with | .tup [a, _] => a | d => d) (fun _ => true) (fun R h => ?_) (by simp at hl ⊢; omega) ?_ ?_
  · simp [eSta, eRows, atI, ixN]
    exact h _ fun _ _ _ => trivial
  · intro p hp x hx acc Qt Qf h1 h2
    obtain ⟨⟨a, b⟩, _, rfl⟩ := List.mem_map.mp hx
    simpa [eRow] using h1
  · intro p hp
    have := hQ p hp
    rw [filt_all, List.map_map]
    exact ret_same this
theorem len_started {Q : DK} {E : XD} (h : dsp_started K ds G Q E) : ds.length = ps_started.length := by
  obtain ⟨rfl, _⟩ := h; rfl
theorem pure_started (h : dsp_started K ds G QD ED) : t_started K (excD K ED) (retD K QD) (startD N_started ds) G := by
  obtain ⟨rfl, hQ⟩ := h
  simpa [t_started, eSta, eRows] using ret_same (K := K) hQ
theorem len_hit {Q : DK} {E : XD} (h : dsp_hit K ds G Q E) : ds.length = ps_hit.length := by
  obtain ⟨_, _, _, rfl, _⟩ := h; rfl
theorem pure_hit (h : dsp_hit K ds G QD ED) : t_hit K (excD K ED) (retD K QD) (startD N_hit ds) G := by
  obtain ⟨r, ⟨rows, hand⟩, p, rfl, hl, hQ⟩ := h
  have hl : rows.length ≤ 1000 := hl
  have lf : ∀ f : Row → Bool, (rows.filter f).length ≤ 1000 := fun f => Nat.le_trans (List.length_filter_le _ _) hl
  have used : ∀ r', r' = r → (r' = "used" ∨ r' = "last") → dLc K (iSeqD (dVar 3)) (gN 5) (dTest (dOp dNe (dOp dIx (dVar 5) (dC (dI 0))) (dVar 2))) (dVar 5) [5]
          [some (dS r), some (D.tup [eRows rows, dI ↑hand]), some (dI p), some (eRows rows), some (dI ↑hand), none, none, none]
          G fun x G1 => match [x] with
          | [D.tup xs] => xs.length ≤ 16777215 ∧ ∃ G2, Ent K G1 G2 ∧ QD (D.tup [D.tup (xs ++ [D.tup [dI p, dI 0]]), dI ↑hand]) G2
          | [D.at (V.ref a)] => ∃ xs, G1 a = some (MO.lst xs) ∧ xs.length ≤ 16777215 ∧ ∃ G2, Ent K G1 G2 ∧ QD (D.tup [D.tup (xs ++ [D.tup [dI p, dI 0]]), dI ↑hand]) G2
          | x => False := by
    intro r' e hr
    subst e
    refine dlc_pure (rows.map eRow) id (fun d => match d with | .tup [.at (.int a), _] => decide (a ≠ p) | _ => false) (fun R h => ?_) (by simp; omega) ?_ ?_
    · simp [eRows]
      exact h _ fun _ _ _ => trivial
    · intro q hq x hx acc Qt Qf h1 h2
      obtain ⟨⟨a, b⟩, _, rfl⟩ := List.mem_map.mp hx
      by_cases e : a = p <;> simp_all [eRow, atI, ixN]
    · intro q hq
      refine ⟨_, gu_same, ?_, _, ent_new hq, ?_⟩
      · rw [List.length_map]
        refine Nat.le_trans (List.length_filter_le _ _) ?_
        rw [List.length_map]
        omega
      · have e : hitF r' (rows, hand) p = (rows.filter (fun x => decide (x.1 ≠ p)) ++ [(p, 0)], hand) := by simp [hitF, hr]
        rw [e] at hQ
        simp only [eSta, eRows, List.map_append, List.map_cons, List.map_nil] at hQ
        simp only [List.map_id, List.filter_map] at hQ ⊢
        exact hQ
  simp [t_hit, t_hit_1, t_hit_2, t_hit_3, t_hit_4, eSta, flatD, flatV, inD, inV, toV, eqV]
  refine ⟨⟨fun e => used _ e (.inl rfl), fun e => used _ e (.inr rfl)⟩, fun e1 e2 => ⟨fun e => ?_, fun e3 => ⟨fun e => ?_, fun e4 => ?_⟩⟩⟩
  · subst e
    refine dlc_pure (rows.map eRow) (fun d => match d with | .tup [.at (.int a), .at (.int b)] => .tup [dI a, dI (b + if a = p then 1 else 0)] | d => d) (fun _ => true) (fun R h => ?_) (by simp; omega) ?_ ?_
    · simp [eRows]
      exact h _ fun _ _ _ => trivial
    · intro q hq x hx acc Qt Qf h1 h2
      obtain ⟨⟨a, b⟩, _, rfl⟩ := List.mem_map.mp hx
      simp_all [eRow]
    · intro q hq
      refine ⟨_, gu_same, _, ent_new hq, ?_⟩
      simp [hitF, eSta, eRows] at hQ
      rw [filt_all, List.map_map]
      exact hQ
  · subst e
    refine dlc_pure (rows.map eRow) (fun d => match d with | .tup [.at (.int a), .at (.int b)] => .tup [dI a, dI (if a = p then 1 else b)] | d => d) (fun _ => true) (fun R h => ?_) (by simp; omega) ?_ ?_
    · simp [eRows]
      exact h _ fun _ _ _ => trivial
    · intro q hq x hx acc Qt Qf h1 h2
      obtain ⟨⟨a, b⟩, _, rfl⟩ := List.mem_map.mp hx
      by_cases e : a = p <;> simp_all [eRow]
    · intro q hq
      refine ⟨_, gu_same, _, ent_new hq, ?_⟩
      simp [hitF, eSta, eRows] at hQ
      rw [filt_all, List.map_map]
      exact hQ
  · have e : hitF r (rows, hand) p = (rows, hand) := by simp [hitF, Ne.symm e1, Ne.symm e2, e3, e4]
    rw [e] at hQ
    exact ret_same hQ
end
end Cb

set_option Elab.async false
set_option linter.all false
set_option maxRecDepth 100000
set_option maxHeartbeats 4000000
/-! What the program's defs compute: who goes. -/
namespace Cb
open PySem PySem.Spec PyProof.Rows L2 Dl
/-- the pages that must stay, as a tuple, a list, a dict's keys -/
def PinOk (G : GH) (d : D) (ps : List Int) : Prop := d = .tup (ps.map dI) ∨ (∃ a, d = dR a ∧ G a = some (.lst (ps.map dI))) ∨ ∃ a kvs, d = dR a ∧ G a = some (.dct kvs) ∧ kvs.map (·.1) = ps.map Sum.inl
theorem PinOk.le {G G' : GH} {d : D} {ps : List Int} (h : PinOk G d ps) (l : Le G G') : PinOk G' d ps := by
  rcases h with h | ⟨a, h1, h2⟩ | ⟨a, kvs, h1, h2, h3⟩
  · exact .inl h
  · exact .inr (.inl ⟨a, h1, l _ _ h2⟩)
  · exact .inr (.inr ⟨a, kvs, h1, l _ _ h2, h3⟩)
theorem inD_ints (i : Int) (ps : List Int) : inD (dI i) (ps.map dI) = decide (i ∈ ps) := by
  unfold inD
  rw [List.map_map]
  induction ps with
  | nil => simp [inV]
  | cons p ps ih =>
    have e : inV (toV (dI i)) (((p :: ps).map (toV ∘ dI))) = (eqV (.int p) (.int i) || inV (toV (dI i)) (ps.map (toV ∘ dI))) := rfl
    rw [e, ih]
    by_cases q : p = i
    · subst q; simp [eqV]
    · have : (p == i) = false := by simpa using q
      simp [eqV, this, Ne.symm q]
theorem flat_ints (ps : List Int) : (ps.map dI).all flatD = true := by
  rw [List.all_eq_true]; intro x hx; obtain ⟨i, _, rfl⟩ := List.mem_map.mp hx; rfl
theorem valD_keys {i : Int} : ∀ {kvs : List (Key × D)} {ps : List Int}, kvs.map (·.1) = ps.map Sum.inl → (valD kvs (Sum.inl i)).isSome = decide (i ∈ ps)
  | [], [], _ => rfl
  | [], _ :: _, h => by simp at h
  | _ :: _, [], h => by simp at h
  | (k, d) :: kvs, p :: ps, h => by
    rw [List.map_cons, List.map_cons, List.cons.injEq] at h
    obtain ⟨h1, h2⟩ := h
    have h1 : k = Sum.inl p := h1
    subst h1
    have ih := valD_keys (i := i) h2
    unfold valD at ih ⊢
    by_cases q : p = i
    · subst q; simp
    · have : ¬ (Sum.inl p : Key) = Sum.inl i := by simpa using q
      rw [List.find?_cons_of_neg (by simpa using q)]
      rw [ih]
      simp [Ne.symm q]
theorem in_pins {G : GH} {d : D} {ps : List Int} {i : Int} {f : Bool → Bool} {Q : DK} (h : PinOk G d ps) (q : Q (dB (f (decide (i ∈ ps)))) G) : dInF f (dI i) d G Q := by
  rcases h with h | ⟨a, h1, h2⟩ | ⟨a, kvs, h1, h2, h3⟩
  · subst h
    exact ⟨rfl, flat_ints ps, by rw [inD_ints]; exact q⟩
  · subst h1
    exact .inl ⟨_, h2, rfl, flat_ints ps, by rw [inD_ints]; exact q⟩
  · subst h1
    exact .inr ⟨kvs, Sum.inl i, h2, rfl, by rw [valD_keys h3]; exact q⟩

/-! ### mark_of -/
def markF (r : Str) : Int := if r = "often" ∨ r = "clock" then 1 else 0
def dsp_mark_of (K : PySem.W.Frag) : DSp := fun ds G Q _ => ∃ r, ds = [dS r] ∧ Q (dI (markF r)) G
abbrev N_mark_of : List Str := ["rule"]
abbrev ps_mark_of : List Str := ["rule"]
@[simp] theorem st_mark_of (x0 : D) : startD N_mark_of [x0] = [some x0] := rfl
def t_mark_of (K : PySem.W.Frag) (WD : XDW) : TDS := (dRet (dBi dInt (dCons (dOp dIn (dVar 0) (dTup (dCons (dC (dS "often")) (dCons (dC (dS "clock")) dNil)))) dNil)))
section
variable {K : PySem.W.Frag} {ds : List D} {G : GH} {QD : DK} {ED : XD}
theorem len_mark_of {Q : DK} {E : XD} (h : dsp_mark_of K ds G Q E) : ds.length = ps_mark_of.length := by
  obtain ⟨_, rfl, _⟩ := h; rfl
theorem pure_mark_of (h : dsp_mark_of K ds G QD ED) : t_mark_of K (excD K ED) (retD K QD) (startD N_mark_of ds) G := by
  obtain ⟨r, rfl, hQ⟩ := h
  have hQ := ret_same (K := K) hQ
  simp [t_mark_of, flatD, flatV, inD, inV, toV, eqV]
  simpa [markF, eq_comm] using hQ
end

/-! ### loser -/
def someF (rows : List Row) (ps : List Int) : List Nat := (rows.zipIdx.filter fun q => decide (q.1.1 ∉ ps)).map (·.2)
def ltP (a b : Int × Int) : Bool := decide (a.1 < b.1) || (decide (a.1 = b.1) && decide (a.2 < b.2))
def minP (x : Int × Int) (xs : List (Int × Int)) : Int × Int := xs.foldl (fun a y => if ltP y a then y else a) x
def maxP (x : Int × Int) (xs : List (Int × Int)) : Int × Int := xs.foldl (fun a y => if ltP a y then y else a) x
def clockRun (ps : List Int) : Nat → List Row → Nat → List Row × Nat
  | 0, rows, h => (rows, h)
  | n + 1, rows, h => match rows[h]? with
    | none => (rows, h)
    | some (a, b) => if b = 1 ∨ a ∈ ps then clockRun ps n (if a ∈ ps then rows else rows.set h (a, 0)) ((h + 1) % rows.length) else (rows, h)
def rwA (rows : List Row) (i : Nat) : Row := rows[i]?.getD (0, 0)
def loserF (r : Str) (s : Sta) (ps : List Int) : Option (Nat × Sta) :=
  match someF s.1 ps with
  | [] => none
  | i :: is =>
    if r = "came" ∨ r = "used" then some (i, s)
    else if r = "last" then some ((i :: is).getLast (by simp), s)
    else if r = "often" then some ((minP ((rwA s.1 i).2, (i : Int)) (is.map fun (j : Nat) => ((rwA s.1 j).2, (j : Int)))).2.toNat, s)
    else if r = "high" then some ((maxP ((rwA s.1 i).1, (i : Int)) (is.map fun (j : Nat) => ((rwA s.1 j).1, (j : Int)))).2.toNat, s)
    else let q := clockRun ps (2 * s.1.length) s.1 s.2
      some (q.2, q)
def eLos : Option (Nat × Sta) → D
  | none => dN
  | some (i, s) => .tup [dI i, eRows s.1, dI s.2]
def dsp_loser (K : PySem.W.Frag) : DSp := fun ds G Q _ => ∃ r s d ps, ds = [dS r, eSta s, d] ∧ PinOk G d ps ∧ s.1.length ≤ 1000 ∧ r ∈ ruleIx ∧ (r = "clock" → s.1 = [] ∨ s.2 < s.1.length) ∧ Q (eLos (loserF r s ps)) G
abbrev N_loser : List Str := ["rule", "state", "pins", "rows", "hand", "some", "place", "row"]
abbrev ps_loser : List Str := ["rule", "state", "pins"]
@[simp] theorem st_loser (x0 x1 x2 : D) : startD N_loser [x0, x1, x2] = [some x0, some x1, some x2, none, none, none, none, none] := rfl
def t_loser_1 (K : PySem.W.Frag) (WD : XDW) : TDS := (dRet (dTup (dCons (dVar 4) (dCons (dBi dTuple (dCons (dVar 3) dNil)) (dCons (dVar 4) dNil)))))
def t_loser_2 (K : PySem.W.Frag) (WD : XDW) : TDS := (dSeq (dWhile K (dOr (dTest (dOp dEq (dOp dIx (dOp dIx (dVar 3) (dVar 4)) (dC (dI 1))) (dC (dI 1)))) (dTest (dOp dIn (dOp dIx (dOp dIx (dVar 3) (dVar 4)) (dC (dI 0))) (dVar 2)))) (dSeq (dIfS (dTest (dOp dNotin (dOp dIx (dOp dIx (dVar 3) (dVar 4)) (dC (dI 0))) (dVar 2))) (dAsg (dTup (dCons (dOp dIx (dOp dIx (dVar 3) (dVar 4)) (dC (dI 0))) (dCons (dC (dI 0)) dNil))) (gS (dVar 3) (dVar 4))) dNext)
  (dAsg (dOp (dI2 (fun _ j => 0 < j) fun i j => .int (i % j)) (dOp dAdd (dVar 4) (dC (dI 1))) (dBi dLen (dCons (dVar 3) dNil))) (gN 4))))
  (t_loser_1 K WD))
def t_loser_3 (K : PySem.W.Frag) (WD : XDW) : TDS := (dSeq (dAsg (dBi dList (dCons (dVar 3) dNil)) (gN 3))
  (t_loser_2 K WD))
def t_loser_4 (K : PySem.W.Frag) (WD : XDW) : TDS := (dSeq (dIfS (dTest (dOp dEq (dVar 0) (dC (dS "high")))) (dRet (dTup (dCons (dOp dIx (dBi (dBest PySem.W.maxD) (dCons (dLc K (iLstD (dVar 5)) (gN 6) dYes (dTup (dCons (dOp dIx (dOp dIx (dVar 3) (dVar 6)) (dC (dI 0))) (dCons (dVar 6) dNil))) [6]) dNil)) (dC (dI 1))) (dCons (dVar 3) (dCons (dVar 4) dNil))))) dNext)
  (t_loser_3 K WD))
def t_loser_5 (K : PySem.W.Frag) (WD : XDW) : TDS := (dSeq (dIfS (dTest (dOp dEq (dVar 0) (dC (dS "often")))) (dRet (dTup (dCons (dOp dIx (dBi (dBest PySem.W.minD) (dCons (dLc K (iLstD (dVar 5)) (gN 6) dYes (dTup (dCons (dOp dIx (dOp dIx (dVar 3) (dVar 6)) (dC (dI 1))) (dCons (dVar 6) dNil))) [6]) dNil)) (dC (dI 1))) (dCons (dVar 3) (dCons (dVar 4) dNil))))) dNext)
  (t_loser_4 K WD))
def t_loser_6 (K : PySem.W.Frag) (WD : XDW) : TDS := (dSeq (dIfS (dTest (dOp dEq (dVar 0) (dC (dS "last")))) (dRet (dTup (dCons (dOp dIx (dVar 5) (dNeg (dC (dI 1)))) (dCons (dVar 3) (dCons (dVar 4) dNil))))) dNext)
  (t_loser_5 K WD))
def t_loser_7 (K : PySem.W.Frag) (WD : XDW) : TDS := (dSeq (dIfS (dTest (dOp dIn (dVar 0) (dTup (dCons (dC (dS "came")) (dCons (dC (dS "used")) dNil))))) (dRet (dTup (dCons (dOp dIx (dVar 5) (dC (dI 0))) (dCons (dVar 3) (dCons (dVar 4) dNil))))) dNext)
  (t_loser_6 K WD))
def t_loser_8 (K : PySem.W.Frag) (WD : XDW) : TDS := (dSeq (dIfS (dTest (dOp dEq (dVar 5) (dLst dNil))) (dRet (dC dN)) dNext)
  (t_loser_7 K WD))
def t_loser_9 (K : PySem.W.Frag) (WD : XDW) : TDS := (dSeq (dAsg (dLc K (iEnTD (dCons (dVar 3) dNil)) (gT 2 (gC (gN 6) (gC (gN 7) gE))) (dTest (dOp dNotin (dOp dIx (dVar 7) (dC (dI 0))) (dVar 2))) (dVar 6) [6, 7]) (gN 5))
  (t_loser_8 K WD))
def t_loser (K : PySem.W.Frag) (WD : XDW) : TDS := (dSeq (dAsg (dVar 1) (gT 2 (gC (gN 3) (gC (gN 4) gE))))
  (t_loser_9 K WD))
section
variable {K : PySem.W.Frag} {ds : List D} {G : GH} {QD : DK} {ED : XD}
variable {WD : XDW}
theorem enD_rows (rows : List Row) : enD (rows.map eRow) = rows.zipIdx.map fun q => .tup [dI (q.2 : Nat), eRow q.1] := by
  unfold enD
  rw [List.mapIdx_eq_zipIdx_map, List.zipIdx_map, List.map_map]
  rfl
theorem len_loser {Q : DK} {E : XD} (h : dsp_loser K ds G Q E) : ds.length = ps_loser.length := by
  obtain ⟨_, _, _, _, rfl, _⟩ := h; rfl
/-- what a comprehension over indexes gives -/
theorem some_lt {rows : List Row} {ps : List Int} {i : Nat} (h : i ∈ someF rows ps) : i < rows.length ∧ (rwA rows i).1 ∉ ps := by
  unfold someF at h
  obtain ⟨⟨x, j⟩, h1, rfl⟩ := List.mem_map.mp h
  obtain ⟨h1, h2⟩ := List.mem_filter.mp h1
  have h3 := List.mem_zipIdx_iff_getElem?.mp h1
  have h4 : rows[j]? = some x := by simpa using h3
  refine ⟨(List.getElem?_eq_some_iff.mp h4).1, ?_⟩
  unfold rwA
  rw [h4]
  simpa using h2
theorem rw_at {rows : List Row} {i : Nat} (h : i < rows.length) : rows[i]? = some (rwA rows i) := by
  unfold rwA
  rw [List.getElem?_eq_getElem h]; rfl
theorem atI_nat {α : Type} {xs : List α} {i : Nat} {x : α} (h : xs[i]? = some x) : atI xs (i : Int) = some x := by
  have hi : i < xs.length := (List.getElem?_eq_some_iff.mp h).1
  unfold atI ixN
  rw [if_pos (by omega), if_pos (by omega)]
  simpa using h
theorem at_rows {rows : List Row} {i : Nat} (h : i < rows.length) : atI (rows.map eRow) (i : Int) = some (eRow (rwA rows i)) := atI_nat (by rw [List.getElem?_map, rw_at h]; rfl)
def eP (p : Int × Int) : D := .tup [dI p.1, dI p.2]
theorem py_eP (p : Int × Int) : py (eP p) = .tuple [.int p.1, .int p.2] := rfl
theorem lt_eP (a b : Int × Int) : PySem.W.dataLt (py (eP a)) (py (eP b)) = ltP a b := by
  rw [py_eP, py_eP, PySem.W.dataLt_tuple]
  have al : ∀ x y : Int, PySem.W.alike (.int x) (.int y) = true := fun x y => by simp [PySem.W.alike]
  by_cases h : a.1 = b.1
  · rw [PySem.W.dataLt_all_yes (al _ _) (by simp [PyData.eqv, h])]
    by_cases h2 : a.2 = b.2
    · rw [PySem.W.dataLt_all_yes (al _ _) (by simp [PyData.eqv, h2])]
      simp [ltP, h, h2, PySem.W.keyToksAll, PyProof.Rows.lexLt]
      rfl
    · rw [PySem.W.dataLt_all_no (al _ _) (by simp [PyData.eqv, h2]), PySem.W.dataLt_int]
      simp [ltP, h]
  · rw [PySem.W.dataLt_all_no (al _ _) (by simp [PyData.eqv, h]), PySem.W.dataLt_int]
    simp [ltP, h]
theorem min_eP (x : Int × Int) : ∀ xs : List (Int × Int), PySem.W.minD (py (eP x)) (pys (xs.map eP)) = py (eP (minP x xs)) := fun xs => by
  unfold PySem.W.minD minP
  rw [pys_map, List.map_map]
  induction xs generalizing x with
  | nil => rfl
  | cons y ys ih =>
    rw [List.map_cons, List.foldl_cons, List.foldl_cons]
    have e : (py ∘ eP) y = py (eP y) := rfl
    rw [e, lt_eP]
    cases ltP y x with
    | true => exact ih y
    | false => exact ih x
theorem max_eP (x : Int × Int) : ∀ xs : List (Int × Int), PySem.W.maxD (py (eP x)) (pys (xs.map eP)) = py (eP (maxP x xs)) := fun xs => by
  unfold PySem.W.maxD maxP
  rw [pys_map, List.map_map]
  induction xs generalizing x with
  | nil => rfl
  | cons y ys ih =>
    rw [List.map_cons, List.foldl_cons, List.foldl_cons]
    have e : (py ∘ eP) y = py (eP y) := rfl
    rw [e, lt_eP]
    cases ltP x y with
    | true => exact ih y
    | false => exact ih x
theorem eP_inj {a b : Int × Int} (h : py (eP a) = py (eP b)) : a = b := by
  rw [py_eP, py_eP] at h
  injection h with h
  injection h with h1 h
  injection h with h2 _
  injection h1 with h1
  injection h2 with h2
  exact Prod.ext h1 h2
theorem alike_eP (xs : List (Int × Int)) : PySem.W.AlikeAll (pys (xs.map eP)) := by
  rw [pys_map, List.map_map]
  refine ⟨fun x hx y hy => ?_, fun x hx => ?_⟩
  · obtain ⟨a, _, rfl⟩ := List.mem_map.mp hx
    obtain ⟨b, _, rfl⟩ := List.mem_map.mp hy
    simp [py_eP, PySem.W.alike, PySem.W.alikeAll]
  · obtain ⟨a, _, rfl⟩ := List.mem_map.mp hx
    simp [py_eP]
theorem depth_eP : ∀ xs : List (Int × Int), PyData.depthAll (pys (xs.map eP)) ≤ 8
  | [] => by simp [pys, PyData.depthAll]
  | x :: xs => by
    have ih := depth_eP xs
    simp only [List.map_cons, pys, py_eP, PyData.depthAll, PyData.depth]
    omega
theorem lay_eP : ∀ xs : List (Int × Int), PyData.canLayAll0 (pys (xs.map eP)) = true
  | [] => by simp [pys, PyData.canLayAll0]
  | x :: xs => by
    have ih := lay_eP xs
    simp only [List.map_cons, pys, py_eP, PyData.canLayAll0, PyData.canLay0, ih, Bool.and_true]
theorem plain_eP : ∀ xs : List (Int × Int), plains (xs.map eP) = true
  | [] => rfl
  | x :: xs => by
    have ih := plain_eP xs
    rw [List.map_cons, plains, ih]
    rfl
theorem best_min {G : GH} {a : Addr} {x : Int × Int} {xs : List (Int × Int)} {Q : DK} (h : G a = some (.lst ((x :: xs).map eP))) (q : Q (eP (minP x xs)) G) : dBest PySem.W.minD [dR a] G Q := by
  refine ⟨eP x, xs.map eP, h, plain_eP (x :: xs), alike_eP (x :: xs), depth_eP (x :: xs), lay_eP (x :: xs), fun d hd e => ?_⟩
  rw [min_eP] at e
  obtain ⟨b, _, rfl⟩ := List.mem_map.mp (show d ∈ (x :: xs).map eP from hd)
  rw [eP_inj e]
  exact q
theorem best_max {G : GH} {a : Addr} {x : Int × Int} {xs : List (Int × Int)} {Q : DK} (h : G a = some (.lst ((x :: xs).map eP))) (q : Q (eP (maxP x xs)) G) : dBest PySem.W.maxD [dR a] G Q := by
  refine ⟨eP x, xs.map eP, h, plain_eP (x :: xs), alike_eP (x :: xs), depth_eP (x :: xs), lay_eP (x :: xs), fun d hd e => ?_⟩
  rw [max_eP] at e
  obtain ⟨b, _, rfl⟩ := List.mem_map.mp (show d ∈ (x :: xs).map eP from hd)
  rw [eP_inj e]
  exact q
theorem best_in {x : Int × Int} {xs : List (Int × Int)} (f : Int × Int → Int × Int → Int × Int) (hf : ∀ a b, f a b = a ∨ f a b = b) : xs.foldl f x ∈ x :: xs := by
  induction xs generalizing x with
  | nil => simp
  | cons y ys ih =>
    rw [List.foldl_cons]
    rcases hf x y with e | e <;> rw [e]
    · have := ih (x := x)
      simp only [List.mem_cons] at this ⊢
      rcases this with h | h
      · exact .inl h
      · exact .inr (.inr h)
    · have := ih (x := y)
      exact List.mem_cons_of_mem _ this

theorem idx_lc {K : PySem.W.Frag} {G : GH} {q : Addr} {l : List Nat} {rows : List Row} {δ : DSt} {Q : DK} (j : Int) (F : Nat → Int) (hq : G q = some (.lst (l.map fun (i : Nat) => dI i))) (hl : l.length ≤ 1000) (hin : ∀ i ∈ l, i < rows.length)
    (h3 : gs δ 3 = some (eRows rows)) (h5 : gs δ 5 = some (dR q)) (w3 : gs (ws δ 6) 3 = some (eRows rows)) (hj : (∀ i, F i = (rwA rows i).2) ∧ j = 1 ∨ (∀ i, F i = (rwA rows i).1) ∧ j = 0) (w6 : ∀ d, gs (ss (ws δ 6) 6 d) 3 = some (eRows rows) ∧ gs (ss (ws δ 6) 6 d) 6 = some d)
    (h : ∀ p, G p = none → Q (dR p) (gu G p (.lst (l.map fun (i : Nat) => eP (F i, i))))) :
    dLc K (iLstD (dVar 5)) (gN 6) dYes (dTup (dCons (dOp dIx (dOp dIx (dVar 3) (dVar 6)) (dC (dI j))) (dCons (dVar 6) dNil))) [6] δ G Q := by
  refine dlc_pure (l.map fun (i : Nat) => dI i) (fun d => match d with | .at (.int i) => eP (F i.toNat, i) | d => d) (fun _ => true) (fun R h => ?_) (by simp; omega) ?_ ?_
  · simp [h5, hq]
    refine h _ fun p acc hp => ?_
    rw [gu_ne (fun e => by rw [← e, hq] at hp; cases hp)]
    exact hq
  · intro p hp x hx acc Qt Qf h1 h2
    obtain ⟨i, hi, rfl⟩ := List.mem_map.mp hx
    have e := w6 (dI i)
    have hr := at_rows (hin i hi)
    simp [e.1, e.2]
    rcases hj with ⟨hF, rfl⟩ | ⟨hF, rfl⟩
    · refine ⟨_, hr, ?_⟩
      simp [eRow, atI, ixN]
      simpa [hF, eP] using h1
    · refine ⟨_, hr, ?_⟩
      simp [eRow, atI, ixN]
      simpa [hF, eP] using h1
  · intro p hp
    have := h p hp
    rw [filt_all, List.map_map]
    exact this
theorem getLast_at {l : List Nat} (h : l ≠ []) : atI (l.map fun (i : Nat) => dI i) (-1) = some (dI (l.getLast h : Nat)) := by
  have hl : 0 < l.length := List.length_pos_iff.mpr h
  unfold atI ixN
  rw [if_neg (by decide), List.length_map, if_pos (by omega)]
  have e : ((-1 : Int) + (l.length : Int)).toNat = l.length - 1 := by omega
  simp only [Option.bind_some, e]
  rw [List.getElem?_map, ← List.getLast?_eq_getElem?, List.getLast?_eq_some_getLast h]
  rfl
section
variable {r : Str} {rows : List Row} {hand : Nat} {d : D} {ps : List Int} {q : Addr} {x6 x7 : Option D} {is : List Nat} {i : Nat} {E : DEnds}
abbrev δl (r : Str) (rows : List Row) (hand : Nat) (d : D) (q : Addr) (st : D) (x6 x7 : Option D) : DSt := [some (dS r), some st, some d, some (eRows rows), some (dI hand), some (dR q), x6, x7]
theorem los4 {st : D} (hl : rows.length ≤ 1000) (hs : someF rows ps = i :: is) (hq : G q = some (.lst ((i :: is).map fun (i : Nat) => dI i))) (hsl : (i :: is).length ≤ 1000)
    (h1 : r = "high" → ∀ G1, Le G G1 → E.rt (eLos (some ((maxP ((rwA rows i).1, (i : Int)) (is.map fun (j : Nat) => ((rwA rows j).1, (j : Int)))).2.toNat, (rows, hand)))) G1)
    (h2 : r ≠ "high" → t_loser_3 K WD E (δl r rows hand d q st x6 x7) G) : t_loser_4 K WD E (δl r rows hand d q st x6 x7) G := by
  have hin : ∀ j ∈ i :: is, j < rows.length := fun j hj => (some_lt (ps := ps) (by rw [hs]; exact hj)).1
  simp [t_loser_4]
  refine ⟨fun e => ?_, fun e => h2 e⟩
  refine idx_lc (rows := rows) (l := i :: is) 0 (fun j => (rwA rows j).1) hq hsl hin rfl rfl rfl (.inr ⟨fun _ => rfl, rfl⟩) (fun d => ⟨rfl, rfl⟩) fun p hp => ?_
  refine best_max (x := ((rwA rows i).1, (i : Int))) (xs := is.map fun (j : Nat) => ((rwA rows j).1, (j : Int))) (by rw [gu_same, List.map_cons, List.map_cons, List.map_map]; rfl) ?_
  simp [eP, atI, ixN]
  have hm := best_in (x := ((rwA rows i).1, (i : Int))) (xs := is.map fun (j : Nat) => ((rwA rows j).1, (j : Int))) (fun a y => if ltP a y then y else a) (fun a b => by by_cases h : ltP a b <;> simp [h])
  have hnn : 0 ≤ (maxP ((rwA rows i).1, (i : Int)) (is.map fun (j : Nat) => ((rwA rows j).1, (j : Int)))).2 := by
    have e2 : maxP ((rwA rows i).1, (i : Int)) (is.map fun (j : Nat) => ((rwA rows j).1, (j : Int))) ∈ (i :: is).map fun (j : Nat) => ((rwA rows j).1, (j : Int)) := hm
    obtain ⟨j, _, e3⟩ := List.mem_map.mp e2
    rw [← e3]; simp
  have h1' := h1 e
  simp only [eLos] at h1'
  rw [Int.toNat_of_nonneg hnn] at h1'
  exact h1' _ (Le.new hp)
theorem los5 {st : D} (hl : rows.length ≤ 1000) (hs : someF rows ps = i :: is) (hq : G q = some (.lst ((i :: is).map fun (i : Nat) => dI i))) (hsl : (i :: is).length ≤ 1000)
    (h1 : r = "often" → ∀ G1, Le G G1 → E.rt (eLos (some ((minP ((rwA rows i).2, (i : Int)) (is.map fun (j : Nat) => ((rwA rows j).2, (j : Int)))).2.toNat, (rows, hand)))) G1)
    (h2 : r ≠ "often" → t_loser_4 K WD E (δl r rows hand d q st x6 x7) G) : t_loser_5 K WD E (δl r rows hand d q st x6 x7) G := by
  have hin : ∀ j ∈ i :: is, j < rows.length := fun j hj => (some_lt (ps := ps) (by rw [hs]; exact hj)).1
  simp [t_loser_5]
  refine ⟨fun e => ?_, fun e => h2 e⟩
  refine idx_lc (rows := rows) (l := i :: is) 1 (fun j => (rwA rows j).2) hq hsl hin rfl rfl rfl (.inl ⟨fun _ => rfl, rfl⟩) (fun d => ⟨rfl, rfl⟩) fun p hp => ?_
  refine best_min (x := ((rwA rows i).2, (i : Int))) (xs := is.map fun (j : Nat) => ((rwA rows j).2, (j : Int))) (by rw [gu_same, List.map_cons, List.map_cons, List.map_map]; rfl) ?_
  simp [eP, atI, ixN]
  have hm := best_in (x := ((rwA rows i).2, (i : Int))) (xs := is.map fun (j : Nat) => ((rwA rows j).2, (j : Int))) (fun a y => if ltP y a then y else a) (fun a b => by by_cases h : ltP b a <;> simp [h])
  have hnn : 0 ≤ (minP ((rwA rows i).2, (i : Int)) (is.map fun (j : Nat) => ((rwA rows j).2, (j : Int)))).2 := by
    have e2 : minP ((rwA rows i).2, (i : Int)) (is.map fun (j : Nat) => ((rwA rows j).2, (j : Int))) ∈ (i :: is).map fun (j : Nat) => ((rwA rows j).2, (j : Int)) := hm
    obtain ⟨j, _, e3⟩ := List.mem_map.mp e2
    rw [← e3]; simp
  have h1' := h1 e
  simp only [eLos] at h1'
  rw [Int.toNat_of_nonneg hnn] at h1'
  exact h1' _ (Le.new hp)
theorem rw_set {rows : List Row} {i j : Nat} {x : Row} (h : i < rows.length) : rwA (rows.set i x) j = if i = j then x else rwA rows j := by
  unfold rwA
  rw [List.getElem?_set]
  by_cases e : i = j
  · subst e; simp [h]
  · simp [e]
/-- the hand's way over the clock -/
structure Way (ps : List Int) (n h0 t : Nat) (rows rows0 : List Row) : Prop where
  len : rows.length = n
  pg : ∀ j, (rwA rows j).1 = (rwA rows0 j).1
  seen : ∀ j, j < t → (rwA rows ((h0 + j) % n)).1 ∈ ps ∨ (rwA rows ((h0 + j) % n)).2 = 0
  more : ∀ j, n ≤ j → j < t → (rwA rows ((h0 + j) % n)).1 ∈ ps
theorem Way.lt {ps : List Int} {n h0 t : Nat} {rows rows0 : List Row} (w : Way ps n h0 t rows rows0) {i : Nat} (hi : i < n) (hf : (rwA rows0 i).1 ∉ ps) (h0n : h0 < n) : t < 2 * n := by
  by_cases h : t < 2 * n
  · exact h
  · exfalso
    by_cases hh : h0 ≤ i
    · have := w.more (i - h0 + n) (by omega) (by omega)
      have e : (h0 + (i - h0 + n)) % n = i := by
        rw [show h0 + (i - h0 + n) = i + n by omega, Nat.add_mod_right, Nat.mod_eq_of_lt hi]
      rw [e, w.pg] at this
      exact hf this
    · have := w.more (i + n - h0 + n) (by omega) (by omega)
      have e : (h0 + (i + n - h0 + n)) % n = i := by
        rw [show h0 + (i + n - h0 + n) = i + n + n by omega, Nat.add_mod_right, Nat.add_mod_right, Nat.mod_eq_of_lt hi]
      rw [e, w.pg] at this
      exact hf this
theorem Way.step {ps : List Int} {n h0 t : Nat} {rows rows0 : List Row} (w : Way ps n h0 t rows rows0) (h0n : h0 < n) (hc : (rwA rows ((h0 + t) % n)).2 = 1 ∨ (rwA rows ((h0 + t) % n)).1 ∈ ps) :
    Way ps n h0 (t + 1) (if (rwA rows ((h0 + t) % n)).1 ∈ ps then rows else rows.set ((h0 + t) % n) ((rwA rows ((h0 + t) % n)).1, 0)) rows0 := by
  have hn : 0 < n := by omega
  have hk : (h0 + t) % n < n := Nat.mod_lt _ hn
  by_cases hp : (rwA rows ((h0 + t) % n)).1 ∈ ps
  · rw [if_pos hp]
    refine ⟨w.len, w.pg, fun j hj => ?_, fun j h1 h2 => ?_⟩
    · by_cases e : j = t
      · subst e; exact .inl hp
      · exact w.seen j (by omega)
    · by_cases e : j = t
      · subst e; exact hp
      · exact w.more j h1 (by omega)
  · rw [if_neg hp]
    have h1 : (rwA rows ((h0 + t) % n)).2 = 1 := hc.resolve_right hp
    have tn : t < n := by
      rcases Nat.lt_or_ge t n with h | h
      · exact h
      · exfalso
        have e : (h0 + (t - n)) % n = (h0 + t) % n := by
          rw [show h0 + t = (h0 + (t - n)) + n by omega, Nat.add_mod_right]
        rcases w.seen (t - n) (by omega) with z | z
        · rw [e] at z; exact hp z
        · rw [e, h1] at z; cases z
    have key : ∀ j, rwA (rows.set ((h0 + t) % n) ((rwA rows ((h0 + t) % n)).1, 0)) j = if (h0 + t) % n = j then ((rwA rows ((h0 + t) % n)).1, 0) else rwA rows j := fun j => rw_set (by rw [w.len]; exact hk)
    refine ⟨by rw [List.length_set]; exact w.len, fun j => ?_, fun j hj => ?_, fun j h2 h3 => by omega⟩
    · rw [key]
      by_cases e : (h0 + t) % n = j
      · rw [if_pos e, ← e]; exact w.pg _
      · rw [if_neg e]; exact w.pg j
    · rw [key]
      by_cases e : (h0 + t) % n = (h0 + j) % n
      · rw [if_pos e]; exact .inr rfl
      · rw [if_neg e]
        refine w.seen j ?_
        rcases Nat.lt_or_ge j t with h | h
        · exact h
        · exfalso
          have : j = t := by omega
          subst this
          exact e rfl
theorem clock_stop {ps : List Int} {rows : List Row} {h : Nat} (hh : h < rows.length) (hc : ¬ ((rwA rows h).2 = 1 ∨ (rwA rows h).1 ∈ ps)) : ∀ n, clockRun ps n rows h = (rows, h)
  | 0 => rfl
  | n + 1 => by
    unfold clockRun
    rw [rw_at hh]
    exact if_neg hc
theorem clock_go {ps : List Int} {rows : List Row} {h : Nat} (hh : h < rows.length) (hc : (rwA rows h).2 = 1 ∨ (rwA rows h).1 ∈ ps) (n : Nat) :
    clockRun ps (n + 1) rows h = clockRun ps n (if (rwA rows h).1 ∈ ps then rows else rows.set h ((rwA rows h).1, 0)) ((h + 1) % rows.length) := by
  rw [clockRun]
  rw [rw_at hh]
  exact if_pos hc
theorem set_rows (rows : List Row) (i : Nat) (x : Row) : (rows.map eRow).set i (eRow x) = (rows.set i x).map eRow := by rw [List.map_set]
theorem los3 {st : D} (hl : rows.length ≤ 1000) (hs : someF rows ps = i :: is) (hp : PinOk G d ps) (hh : hand < rows.length)
    (h1 : ∀ G1, Le G G1 → E.rt (eLos (some ((clockRun ps (2 * rows.length) rows hand).2, clockRun ps (2 * rows.length) rows hand))) G1) : t_loser_3 K WD E (δl r rows hand d q st x6 x7) G := by
  have un := some_lt (rows := rows) (ps := ps) (i := i) (by rw [hs]; exact List.mem_cons_self)
  simp [t_loser_3, eRows]
  intro p hpn
  unfold t_loser_2
  rw [s_dSeq]
  refine ⟨fun m δ' G' => ∃ t rows', m = 2 * rows.length - t ∧ δ' = [some (dS r), some st, some d, some (dR p), some (dI ((hand + t) % rows.length : Nat)), some (dR q), x6, x7] ∧ G' = gu G p (.lst (rows'.map eRow)) ∧
    Way ps rows.length hand t rows' rows ∧ clockRun ps (2 * rows.length - t) rows' ((hand + t) % rows.length) = clockRun ps (2 * rows.length) rows hand, ⟨2 * rows.length, 0, rows, rfl, ?_, rfl, ⟨rfl, fun _ => rfl, fun j h => by omega, fun j _ h => by omega⟩, ?_⟩, ?_⟩
  · rw [Nat.add_zero, Nat.mod_eq_of_lt hh]
  · rw [Nat.add_zero, Nat.mod_eq_of_lt hh, Nat.sub_zero]
  rintro m δ' G' ⟨t, rows', rfl, rfl, rfl, w, e⟩
  have tl := w.lt un.1 un.2 hh
  have hk : (hand + t) % rows.length < rows'.length := by rw [w.len]; exact Nat.mod_lt _ (by omega)
  have ha := at_rows hk
  have hp' : PinOk (gu G p (.lst (rows'.map eRow))) d ps := hp.le (Le.new hpn)
  generalize hK : (hand + t) % rows.length = k at *
  have stop : (¬ ((rwA rows' k).2 = 1 ∨ (rwA rows' k).1 ∈ ps)) → t_loser_1 K WD E [some (dS r), some st, some d, some (dR p), some (dI k), some (dR q), x6, x7] (gu G p (.lst (rows'.map eRow))) := fun hc => by
    rw [clock_stop hk hc] at e
    rw [← e] at h1
    simp [t_loser_1]
    exact h1 _ (Le.new hpn)
  have go : ((rwA rows' k).2 = 1 ∨ (rwA rows' k).1 ∈ ps) → ∀ rows2, rows2 = (if (rwA rows' k).1 ∈ ps then rows' else rows'.set k ((rwA rows' k).1, 0)) → ∃ m' G2, m' < 2 * rows.length - t ∧ Ent K (gu G p (.lst (rows2.map eRow))) G2 ∧ ∃ t' rows'', m' = 2 * rows.length - t' ∧
      [some (dS r), some st, some d, some (dR p), some (dI (((k : Int) + 1) % (rows'.length : Int))), some (dR q), x6, x7] = [some (dS r), some st, some d, some (dR p), some (dI ((hand + t') % rows.length : Nat)), some (dR q), x6, x7] ∧ G2 = gu G p (.lst (rows''.map eRow)) ∧
      Way ps rows.length hand t' rows'' rows ∧ clockRun ps (2 * rows.length - t') rows'' ((hand + t') % rows.length) = clockRun ps (2 * rows.length) rows hand := fun hc rows2 e2 => by
    have w2 := w.step hh (by rw [hK]; exact hc)
    rw [hK, ← e2] at w2
    have ek : (k + 1) % rows.length = (hand + (t + 1)) % rows.length := by
      rw [← hK, Nat.add_mod, Nat.mod_mod, ← Nat.add_mod, Nat.add_assoc]
    refine ⟨2 * rows.length - (t + 1), _, by omega, Ent.refl _, t + 1, rows2, rfl, ?_, rfl, w2, ?_⟩
    · rw [← ek, w.len]
      simp
    · rw [← e, show 2 * rows.length - t = (2 * rows.length - (t + 1)) + 1 by omega, clock_go hk hc, ← e2, w.len, ek]
  have e0 : atI [dI (rwA rows' k).1, dI (rwA rows' k).2] 0 = some (dI (rwA rows' k).1) := rfl
  have e1 : atI [dI (rwA rows' k).1, dI (rwA rows' k).2] 1 = some (dI (rwA rows' k).2) := rfl
  have test : ∀ Qb : Bool → GH → Prop, (((rwA rows' k).2 = 1 ∨ (rwA rows' k).1 ∈ ps) → Qb true (gu G p (.lst (rows'.map eRow)))) → ((¬ ((rwA rows' k).2 = 1 ∨ (rwA rows' k).1 ∈ ps)) → Qb false (gu G p (.lst (rows'.map eRow)))) →
      dOr (dTest (dOp dEq (dOp dIx (dOp dIx (dVar 3) (dVar 4)) (dC (dI 1))) (dC (dI 1)))) (dTest (dOp dIn (dOp dIx (dOp dIx (dVar 3) (dVar 4)) (dC (dI 0))) (dVar 2)))
        [some (dS r), some st, some d, some (dR p), some (dI k), some (dR q), x6, x7] (gu G p (.lst (rows'.map eRow))) Qb := fun Qb q1 q2 => by
    simp [ha, eRow, e0, e1]
    refine ⟨fun h => q1 (.inl h), fun h => in_pins hp' ?_⟩
    by_cases hm : (rwA rows' k).1 ∈ ps
    · simpa [hm] using q1 (.inr hm)
    · simpa [hm] using q2 (by simp [h, hm])
  refine test _ (fun hc => ⟨fun _ => ?_, fun h => by cases h⟩) (fun hc => ⟨(fun h => by cases h), fun _ => stop hc⟩)
  have body : ∀ E' : DEnds, (∀ rows2, rows2 = (if (rwA rows' k).1 ∈ ps then rows' else rows'.set k ((rwA rows' k).1, 0)) → E'.nx [some (dS r), some st, some d, some (dR p), some (dI (((k : Int) + 1) % (rows'.length : Int))), some (dR q), x6, x7] (gu G p (.lst (rows2.map eRow)))) →
      dSeq (dIfS (dTest (dOp dNotin (dOp dIx (dOp dIx (dVar 3) (dVar 4)) (dC (dI 0))) (dVar 2))) (dAsg (dTup (dCons (dOp dIx (dOp dIx (dVar 3) (dVar 4)) (dC (dI 0))) (dCons (dC (dI 0)) dNil))) (gS (dVar 3) (dVar 4))) dNext)
        (dAsg (dOp (dI2 (fun _ j => 0 < j) fun i j => .int (i % j)) (dOp dAdd (dVar 4) (dC (dI 1))) (dBi dLen (dCons (dVar 3) dNil))) (gN 4)) E'
        [some (dS r), some st, some d, some (dR p), some (dI k), some (dR q), x6, x7] (gu G p (.lst (rows'.map eRow))) := fun E' hE => by
    have hpos : 0 < rows'.length := by omega
    simp [ha, eRow, e0, e1]
    refine in_pins hp' ?_
    by_cases hm : (rwA rows' k).1 ∈ ps
    · have := hE _ (if_pos hm).symm
      simp [hm, szMO, hpos]
      exact this
    · have := hE _ (if_neg hm).symm
      have hset := set_rows rows' k ((rwA rows' k).1, 0)
      simp [hm, szMO, hpos]
      refine ⟨_, ha, ?_⟩
      have hix : ixN rows'.length (k : Int) = some k := by
        unfold ixN
        rw [if_pos (by omega), if_pos (by omega)]
        simp
      have e3 : D.tup [dI (rwA rows' k).1, dI 0] = eRow ((rwA rows' k).1, 0) := rfl
      rw [← hset, ← e3] at this
      simpa [eRow, e0, hix, hpos] using this
  exact body _ fun rows2 e2 => go hc rows2 e2
theorem atI_z {α : Type} (x : α) (xs : List α) : atI (x :: xs) 0 = some x := atI_nat (i := 0) rfl
theorem los6 {st : D} (hq : G q = some (.lst ((i :: is).map fun (i : Nat) => dI i)))
    (h1 : r = "last" → E.rt (eLos (some ((i :: is).getLast (by simp), (rows, hand)))) G)
    (h2 : r ≠ "last" → t_loser_5 K WD E (δl r rows hand d q st x6 x7) G) : t_loser_6 K WD E (δl r rows hand d q st x6 x7) G := by
  have e := getLast_at (l := i :: is) (by simp)
  simp [t_loser_6]
  refine ⟨fun hr => ?_, fun hr => h2 hr⟩
  have := h1 hr
  simp [eLos] at this
  refine ⟨_, hq, _, e, this⟩
theorem los7 {st : D} (hq : G q = some (.lst ((i :: is).map fun (i : Nat) => dI i)))
    (h1 : (r = "came" ∨ r = "used") → E.rt (eLos (some (i, (rows, hand)))) G)
    (h2 : (¬ (r = "came" ∨ r = "used")) → t_loser_6 K WD E (δl r rows hand d q st x6 x7) G) : t_loser_7 K WD E (δl r rows hand d q st x6 x7) G := by
  simp [t_loser_7, flatD, flatV, inD, inV, toV, eqV]
  refine ⟨⟨fun e => ?_, fun e => ?_⟩, fun e1 e2 => h2 (by rintro (rfl | rfl); exact e1 rfl; exact e2 rfl)⟩
  · have := h1 (.inl e.symm)
    simp [eLos] at this
    exact ⟨_, hq, dI i, atI_z _ _, this⟩
  · have := h1 (.inr e.symm)
    simp [eLos] at this
    exact ⟨_, hq, dI i, atI_z _ _, this⟩
end
theorem ints_ok : ∀ l : List Nat, PyData.canLayAll0 (pys (l.map fun (i : Nat) => dI i)) = true ∧ PyData.depthAll (pys (l.map fun (i : Nat) => dI i)) = 0 ∧ plains (l.map fun (i : Nat) => dI i) = true
  | [] => by simp [pys, PyData.canLayAll0, PyData.depthAll, plains]
  | x :: xs => by
    obtain ⟨h1, h2, h3⟩ := ints_ok xs
    simp only [List.map_cons, pys, py, PyData.canLayAll0, PyData.canLay0, PyData.depthAll, PyData.depth, plains, Dl.plain, flatV, h1, h2, h3]
    simp
theorem shp_ints (l : List Nat) : shp (.list (pys (l.map fun (i : Nat) => dI i))) = true := by
  obtain ⟨h1, h2, h3⟩ := ints_ok l
  unfold shp SeqAt.shaped
  simp only [PyData.canLay0, PyData.depth, h1, h2]
  decide
theorem pure_loser (h : dsp_loser K ds G QD ED) : t_loser K (excD K ED) (retD K QD) (startD N_loser ds) G := by
  obtain ⟨r, ⟨rows, hand⟩, d, ps, rfl, hp, hl, hr, hc, hQ⟩ := h
  have hl : rows.length ≤ 1000 := hl
  have hc : r = "clock" → rows = [] ∨ hand < rows.length := hc
  have hlz : rows.zipIdx.length ≤ 1000 := by simpa using hl
  simp [t_loser, t_loser_9, eSta]
  refine dlc_pure (enD (rows.map eRow)) (fun d => match d with | .tup [a, _] => a | d => d) (fun d => match d with | .tup [_, .tup [.at (.int a), _]] => decide (a ∉ ps) | _ => false) (fun R h => ?_) (by simp [enD_len]; omega) ?_ ?_
  · simp [eRows]
    exact h _ fun _ _ _ => trivial
  · intro q hq x hx acc Qt Qf h1 h2
    rw [enD_rows] at hx
    obtain ⟨⟨⟨a, b⟩, i⟩, _, rfl⟩ := List.mem_map.mp hx
    have hp' := hp.le (Le.new (m := .lst acc) hq)
    simp [eRow, atI, ixN]
    refine in_pins hp' ?_
    by_cases hm : a ∈ ps
    · simpa [eRow, hm] using h2
    · simpa [eRow, hm] using h1
  · intro q hq
    have el : (List.filter (fun d => match d with | .tup [_, .tup [.at (.int a), _]] => decide (a ∉ ps) | _ => false) (enD (rows.map eRow))).map (fun d => match d with | .tup [a, _] => a | d => d) = (someF rows ps).map fun (i : Nat) => dI i := by
      rw [enD_rows, List.filter_map, List.map_map]
      unfold someF
      rw [List.map_map]
      rfl
    rw [el]
    have hsl : (someF rows ps).length ≤ 1000 := by
      unfold someF
      rw [List.length_map]
      exact Nat.le_trans (List.length_filter_le _ _) hlz
    generalize hs : someF rows ps = l at *
    simp [t_loser_8]
    intro p hpn
    have hpq := (gu_none hpn).1
    have hle : Le G (gu (gu G q (.lst (l.map fun (i : Nat) => dI i))) p (.lst [])) := (Le.new hq).trans (Le.new hpn)
    have hq2 : (gu (gu G q (.lst (l.map fun (i : Nat) => dI i))) p (.lst [])) q = some (.lst (l.map fun (i : Nat) => dI i)) := by rw [gu_ne (Ne.symm hpq), gu_same]
    refine ⟨_, .lst hq2 (DPys.of _ _ (ints_ok l).2.2), _, .lst gu_same .nil, shp_ints l, by decide +kernel, ?_, ?_⟩
    · intro he
      cases l with
      | cons i is => simp [pys, PyData.eqv, PyData.eqvAll] at he
      | nil =>
        have e : loserF r (rows, hand) ps = none := by
          show (match someF rows ps with | [] => none | i :: is => _) = none
          rw [hs]
        rw [e] at hQ
        exact ⟨G, Ent.le hle, hQ⟩
    · intro he
      cases l with
      | nil => simp [pys, PyData.eqv, PyData.eqvAll] at he
      | cons i is =>
        generalize hG : gu (gu G q (.lst ((i :: is).map fun (i : Nat) => dI i))) p (.lst []) = G1 at hle hq2 ⊢
        have hp1 := hp.le hle
        have fin : ∀ o, loserF r (rows, hand) ps = o → ∀ G2, Le G1 G2 → ({ (retD K QD) with nx := fun δ G => True } : DEnds).rt (eLos o) G2 := fun o e G2 l2 => by
          rw [e] at hQ
          exact ⟨G, Ent.le (hle.trans l2), hQ⟩
        have lF : loserF r (rows, hand) ps = if r = "came" ∨ r = "used" then some (i, (rows, hand)) else if r = "last" then some ((i :: is).getLast (by simp), (rows, hand)) else if r = "often" then some ((minP ((rwA rows i).2, (i : Int)) (is.map fun (j : Nat) => ((rwA rows j).2, (j : Int)))).2.toNat, (rows, hand)) else if r = "high" then some ((maxP ((rwA rows i).1, (i : Int)) (is.map fun (j : Nat) => ((rwA rows j).1, (j : Int)))).2.toNat, (rows, hand)) else some ((clockRun ps (2 * rows.length) rows hand).2, clockRun ps (2 * rows.length) rows hand) := by
          unfold loserF
          simp only [hs]
        refine los7 hq2 (fun h1 => fin _ (by rw [lF, if_pos h1]) _ (Le.refl _)) fun h1 => ?_
        refine los6 hq2 (fun h2 => fin _ (by rw [lF, if_neg h1, if_pos h2]) _ (Le.refl _)) fun h2 => ?_
        refine los5 hl hs hq2 hsl (fun h3 G2 l2 => fin _ (by rw [lF, if_neg h1, if_neg h2, if_pos h3]) _ l2) fun h3 => ?_
        refine los4 hl hs hq2 hsl (fun h4 G2 l2 => fin _ (by rw [lF, if_neg h1, if_neg h2, if_neg h3, if_pos h4]) _ l2) fun h4 => ?_
        have hcl : r = "clock" := by
          simp [ruleIx] at hr
          rcases hr with h | h | h | h | h | h
          · exact absurd (.inl h) h1
          · exact absurd (.inr h) h1
          · exact absurd h h2
          · exact absurd h h3
          · exact h
          · exact absurd h h4
        have hh : hand < rows.length := by
          rcases hc hcl with h | h
          · rw [h] at hs; cases hs
          · exact h
        exact los3 hl hs hp1 hh fun G2 l2 => fin _ (by rw [lF, if_neg h1, if_neg h2, if_neg h3, if_neg h4]) _ l2
end
end Cb

set_option Elab.async false
set_option linter.all false
set_option maxRecDepth 100000
set_option maxHeartbeats 4000000
/-! What the program's defs compute: a miss, a page taken out. -/
namespace Cb
open PySem PySem.Spec PyProof.Rows L2 Dl
@[simp] theorem cut_to (xs : List D) (i : Nat) : cutD xs none (some (i : Int)) = xs.take i := by
  unfold Dl.cutD
  rw [HT.sIx_none, HT.sIx_nat, List.drop_zero, Nat.sub_zero]
  by_cases h : i ≤ xs.length
  · rw [Nat.min_eq_left h]
  · rw [Nat.min_eq_right (by omega), List.take_of_length_le (Nat.le_refl _), List.take_of_length_le (by omega)]
@[simp] theorem cut_from (xs : List D) (i : Nat) : cutD xs (some ((i : Int) + 1)) none = xs.drop (i + 1) := by
  unfold Dl.cutD
  have e : ((i : Int) + 1) = ((i + 1 : Nat) : Int) := by omega
  rw [HT.sIx_none, e, HT.sIx_nat]
  by_cases h : i + 1 ≤ xs.length
  · rw [Nat.min_eq_left h]
    exact List.take_of_length_le (by rw [List.length_drop]; exact Nat.le_refl _)
  · rw [Nat.min_eq_right (by omega), List.drop_of_length_le (Nat.le_refl _), List.drop_of_length_le (by omega), List.take_nil]
def outF (rows : List Row) (i : Nat) : List Row := rows.take i ++ rows.drop (i + 1)
def withoutF (s : Sta) (i : Nat) : Sta := (outF s.1 i, if (if i < s.2 then s.2 - 1 else s.2) < (outF s.1 i).length then (if i < s.2 then s.2 - 1 else s.2) else 0)
def dsp_without (K : PySem.W.Frag) : DSp := fun ds G Q _ => ∃ s i, ds = [eSta s, dI (i : Nat)] ∧ s.1.length ≤ 1000 ∧ Q (eSta (withoutF s i)) G
abbrev N_without : List Str := ["state", "place", "rows", "hand"]
abbrev ps_without : List Str := ["state", "place"]
@[simp] theorem st_without (x0 x1 : D) : startD N_without [x0, x1] = [some x0, some x1, none, none] := rfl
def t_without (K : PySem.W.Frag) (WD : XDW) : TDS := (dSeq (dAsg (dVar 0) (gT 2 (gC (gN 2) (gC (gN 3) gE))))
  (dSeq (dAsg (dOp dAdd (dSl (dVar 2) dNoPart (dPart (dVar 1))) (dSl (dVar 2) (dPart (dOp dAdd (dVar 1) (dC (dI 1)))) dNoPart)) (gN 2))
  (dSeq (dAug 3 (dBi dInt (dCons (dOp (dI0 fun i j => .bl (decide (i < j))) (dVar 1) (dVar 3)) dNil)) (fun i j => i - j))
  (dRet (dTup (dCons (dVar 2) (dCons (dIfE (dTest (dOp (dI0 fun i j => .bl (decide (i < j))) (dVar 3) (dBi dLen (dCons (dVar 2) dNil)))) (dVar 3) (dC (dI 0))) dNil)))))))
/-- a miss: nobody may go; the new state, who went -/
def missF (r : Str) (size : Int) (s : Sta) (p : Int) (ps : List Int) : Option (Sta × Option Int) :=
  if (s.1.length : Int) < size then some ((s.1 ++ [(p, markF r)], s.2), none)
  else match loserF r s ps with
    | none => none
    | some (i, (rows, h)) =>
      if r = "clock" then some ((rows.take i ++ [(p, 1)] ++ rows.drop (i + 1), (i + 1) % (rows.take i ++ [(p, 1)] ++ rows.drop (i + 1)).length), some (rwA rows i).1)
      else some ((outF rows i ++ [(p, markF r)], h), some (rwA rows i).1)
def eOpt : Option Int → D
  | none => dN
  | some p => dI p
def eMis : Option (Sta × Option Int) → D
  | none => dN
  | some (s, o) => .tup [eSta s, eOpt o]
/-- the hand stands right -/
def Hand (r : Str) (s : Sta) : Prop := r = "clock" → s.1 = [] ∨ s.2 < s.1.length
def dsp_miss (K : PySem.W.Frag) : DSp := fun ds G Q _ => ∃ r size s p d ps, ds = [dS r, dI size, eSta s, dI p, d] ∧ PinOk G d ps ∧ s.1.length ≤ 1000 ∧ r ∈ ruleIx ∧ Hand r s ∧ Q (eMis (missF r size s p ps)) G
abbrev N_miss : List Str := ["rule", "size", "state", "page", "pins", "rows", "hand", "told", "place", "gone"]
abbrev ps_miss : List Str := ["rule", "size", "state", "page", "pins"]
@[simp] theorem st_miss (x0 x1 x2 x3 x4 : D) : startD N_miss [x0, x1, x2, x3, x4] = [some x0, some x1, some x2, some x3, some x4, none, none, none, none, none] := rfl
def t_miss_1 (K : PySem.W.Frag) (WD : XDW) : TDS := (dRet (dTup (dCons (dTup (dCons (dVar 5) (dCons (dVar 6) dNil))) (dCons (dVar 9) dNil))))
def t_miss_2 (K : PySem.W.Frag) (WD : XDW) : TDS := (dSeq (dAsg (dOp dAdd (dOp dAdd (dSl (dVar 5) dNoPart (dPart (dVar 8))) (dSl (dVar 5) (dPart (dOp dAdd (dVar 8) (dC (dI 1)))) dNoPart)) (dTup (dCons (dTup (dCons (dVar 3) (dCons (dCall (dsp_mark_of K) WD (dCons (dVar 0) dNil)) dNil))) dNil))) (gN 5))
  (t_miss_1 K WD))
def t_miss_3 (K : PySem.W.Frag) (WD : XDW) : TDS := (dSeq (dIfS (dTest (dOp dEq (dVar 0) (dC (dS "clock")))) (dSeq (dAsg (dOp dAdd (dOp dAdd (dSl (dVar 5) dNoPart (dPart (dVar 8))) (dTup (dCons (dTup (dCons (dVar 3) (dCons (dC (dI 1)) dNil))) dNil))) (dSl (dVar 5) (dPart (dOp dAdd (dVar 8) (dC (dI 1)))) dNoPart)) (gN 5))
  (dRet (dTup (dCons (dTup (dCons (dVar 5) (dCons (dOp (dI2 (fun _ j => 0 < j) fun i j => .int (i % j)) (dOp dAdd (dVar 8) (dC (dI 1))) (dBi dLen (dCons (dVar 5) dNil))) dNil))) (dCons (dVar 9) dNil))))) dNext)
  (t_miss_2 K WD))
def t_miss_4 (K : PySem.W.Frag) (WD : XDW) : TDS := (dSeq (dAsg (dOp dIx (dOp dIx (dVar 5) (dVar 8)) (dC (dI 0))) (gN 9))
  (t_miss_3 K WD))
def t_miss_5 (K : PySem.W.Frag) (WD : XDW) : TDS := (dSeq (dAsg (dVar 7) (gT 3 (gC (gN 8) (gC (gN 5) (gC (gN 6) gE)))))
  (t_miss_4 K WD))
def t_miss_6 (K : PySem.W.Frag) (WD : XDW) : TDS := (dSeq (dIfS (dTest (dOp dIs (dVar 7) (dC dN))) (dRet (dC dN)) dNext)
  (t_miss_5 K WD))
def t_miss_7 (K : PySem.W.Frag) (WD : XDW) : TDS := (dSeq (dAsg (dCall (dsp_loser K) WD (dCons (dVar 0) (dCons (dVar 2) (dCons (dVar 4) dNil)))) (gN 7))
  (t_miss_6 K WD))
def t_miss_8 (K : PySem.W.Frag) (WD : XDW) : TDS := (dSeq (dIfS (dTest (dOp (dI0 fun i j => .bl (decide (i < j))) (dBi dLen (dCons (dVar 5) dNil)) (dVar 1))) (dRet (dTup (dCons (dTup (dCons (dOp dAdd (dVar 5) (dTup (dCons (dTup (dCons (dVar 3) (dCons (dCall (dsp_mark_of K) WD (dCons (dVar 0) dNil)) dNil))) dNil))) (dCons (dVar 6) dNil))) (dCons (dC dN) dNil)))) dNext)
  (t_miss_7 K WD))
def t_miss (K : PySem.W.Frag) (WD : XDW) : TDS := (dSeq (dAsg (dVar 2) (gT 2 (gC (gN 5) (gC (gN 6) gE))))
  (t_miss_8 K WD))
theorem clock_len (ps : List Int) : ∀ n rows h, (clockRun ps n rows h).1.length = rows.length
  | 0, _, _ => rfl
  | n + 1, rows, h => by
    unfold clockRun
    cases e : rows[h]? with
    | none => rfl
    | some x =>
      obtain ⟨a, b⟩ := x
      simp only
      by_cases c : b = 1 ∨ a ∈ ps
      · rw [if_pos c, clock_len ps n]
        by_cases d : a ∈ ps
        · rw [if_pos d]
        · rw [if_neg d, List.length_set]
      · rw [if_neg c]
theorem clock_hand (ps : List Int) : ∀ n rows h, h < rows.length → (clockRun ps n rows h).2 < rows.length
  | 0, _, _, hh => hh
  | n + 1, rows, h, hh => by
    unfold clockRun
    cases e : rows[h]? with
    | none => exact hh
    | some x =>
      obtain ⟨a, b⟩ := x
      simp only
      by_cases c : b = 1 ∨ a ∈ ps
      · rw [if_pos c]
        have hl : (if a ∈ ps then rows else rows.set h (a, 0)).length = rows.length := by
          by_cases d : a ∈ ps
          · rw [if_pos d]
          · rw [if_neg d, List.length_set]
        have := clock_hand ps n (if a ∈ ps then rows else rows.set h (a, 0)) ((h + 1) % rows.length) (by rw [hl]; exact Nat.mod_lt _ (by omega))
        rw [hl] at this
        exact this
      · rw [if_neg c]; exact hh
theorem minP_in (x : Int × Int) (xs : List (Int × Int)) : minP x xs ∈ x :: xs := best_in _ (fun a b => by by_cases h : ltP b a <;> simp [h])
theorem maxP_in (x : Int × Int) (xs : List (Int × Int)) : maxP x xs ∈ x :: xs := best_in _ (fun a b => by by_cases h : ltP a b <;> simp [h])
theorem loserF_lt {r : Str} {s : Sta} {ps : List Int} {i : Nat} {s' : Sta} (hc : r ∈ ruleIx) (hh : Hand r s) (h : loserF r s ps = some (i, s')) : i < s'.1.length ∧ s'.1.length = s.1.length ∧ (r ≠ "clock" → s' = s ∧ i ∈ someF s.1 ps) ∧ (r = "clock" → s' = clockRun ps (2 * s.1.length) s.1 s.2 ∧ i = s'.2 ∧ someF s.1 ps ≠ []) := by
  unfold loserF at h
  cases hs : someF s.1 ps with
  | nil => simp only [hs] at h; cases h
  | cons j js =>
    simp only [hs] at h
    have lt : ∀ k ∈ j :: js, k < s.1.length := fun k hk => (some_lt (ps := ps) (by rw [hs]; exact hk)).1
    have sel : ∀ {f : Nat → Int} {p : Int × Int}, p ∈ ((f j, (j : Int)) :: js.map fun (k : Nat) => (f k, (k : Int))) → p.2.toNat ∈ j :: js := fun {f p} hp => by
      rcases List.mem_cons.mp hp with rfl | hp
      · exact List.mem_cons_self
      · obtain ⟨k, hk, rfl⟩ := List.mem_map.mp hp
        exact List.mem_cons_of_mem _ (by simpa using hk)
    by_cases h1 : r = "came" ∨ r = "used"
    · rw [if_pos h1] at h; cases h
      refine ⟨lt _ List.mem_cons_self, rfl, fun _ => ⟨rfl, List.mem_cons_self⟩, fun e => by subst e; simp at h1⟩
    · rw [if_neg h1] at h
      by_cases h2 : r = "last"
      · rw [if_pos h2] at h; cases h
        refine ⟨lt _ (List.getLast_mem _), rfl, fun _ => ⟨rfl, List.getLast_mem _⟩, fun e => by subst e; simp at h2⟩
      · rw [if_neg h2] at h
        by_cases h3 : r = "often"
        · rw [if_pos h3] at h; cases h
          have := sel (f := fun k => (rwA s.1 k).2) (minP_in _ _)
          refine ⟨lt _ this, rfl, fun _ => ⟨rfl, this⟩, fun e => by subst e; simp at h3⟩
        · rw [if_neg h3] at h
          by_cases h4 : r = "high"
          · rw [if_pos h4] at h; cases h
            have := sel (f := fun k => (rwA s.1 k).1) (maxP_in _ _)
            refine ⟨lt _ this, rfl, fun _ => ⟨rfl, this⟩, fun e => by subst e; simp at h4⟩
          · rw [if_neg h4] at h; cases h
            have hcl : r = "clock" := by
              simp [ruleIx] at hc
              rcases hc with h | h | h | h | h | h
              · exact absurd (.inl h) h1
              · exact absurd (.inr h) h1
              · exact absurd h h2
              · exact absurd h h3
              · exact h
              · exact absurd h h4
            have hl : s.2 < s.1.length := by
              rcases hh hcl with e | e
              · have := lt j List.mem_cons_self
                rw [e] at this; simp at this
              · exact e
            refine ⟨?_, clock_len _ _ _ _, fun e => absurd hcl e, fun _ => ⟨rfl, rfl, by simp⟩⟩
            rw [clock_len]
            exact clock_hand _ _ _ _ hl
section
variable {K : PySem.W.Frag} {ds : List D} {G : GH} {QD : DK} {ED : XD}
theorem len_without {Q : DK} {E : XD} (h : dsp_without K ds G Q E) : ds.length = ps_without.length := by
  obtain ⟨_, _, rfl, _⟩ := h; rfl
theorem take_rows (rows : List Row) (i : Nat) : (rows.map eRow).take i = (rows.take i).map eRow := by rw [List.map_take]
theorem drop_rows (rows : List Row) (i : Nat) : (rows.map eRow).drop i = (rows.drop i).map eRow := by rw [List.map_drop]
theorem out_rows (rows : List Row) (i : Nat) : (rows.map eRow).take i ++ (rows.map eRow).drop (i + 1) = (outF rows i).map eRow := by
  unfold outF
  rw [List.map_append, take_rows, drop_rows]
theorem pure_without (h : dsp_without K ds G QD ED) : t_without K (excD K ED) (retD K QD) (startD N_without ds) G := by
  obtain ⟨⟨rows, hand⟩, i, rfl, hl, hQ⟩ := h
  have hl : rows.length ≤ 1000 := hl
  have hQ := ret_same (K := K) hQ
  have hlen : (outF rows i).length ≤ 2000 := by
    unfold outF
    rw [List.length_append, List.length_take, List.length_drop]
    omega
  have hd : (dI ((hand : Int) - if i < hand then 1 else 0)) = dI ((if i < hand then hand - 1 else hand : Nat) : Int) := by
    by_cases h : i < hand
    · rw [if_pos h, if_pos h]; congr 2; omega
    · rw [if_neg h, if_neg h, Int.sub_zero]
  have hi : ((hand : Int) - if i < hand then 1 else 0) = ((if i < hand then hand - 1 else hand : Nat) : Int) := by
    by_cases h : i < hand
    · rw [if_pos h, if_pos h]; omega
    · rw [if_neg h, if_neg h]; omega
  have hol : ((min i rows.length : Nat) : Int) + ((rows.length - (i + 1) : Nat) : Int) = ((outF rows i).length : Int) := by
    unfold outF
    rw [List.length_append, List.length_take, List.length_drop]
    omega
  simp [t_without, eSta, eRows]
  rw [hol, hi, out_rows]
  simp only [withoutF, eSta, eRows] at hQ
  refine ⟨by omega, fun h => ?_, fun h => ?_⟩
  · rw [if_pos (by omega)] at hQ
    exact hQ
  · rw [if_neg (by omega)] at hQ
    exact hQ
theorem len_miss {Q : DK} {E : XD} (h : dsp_miss K ds G Q E) : ds.length = ps_miss.length := by
  obtain ⟨_, _, _, _, _, _, rfl, _⟩ := h; rfl
theorem app_rows (rows : List Row) (x : Row) : rows.map eRow ++ [eRow x] = (rows ++ [x]).map eRow := by rw [List.map_append]; rfl
theorem pure_miss (h : dsp_miss K ds G QD ED) : t_miss K (excD K ED) (retD K QD) (startD N_miss ds) G := by
  obtain ⟨r, size, ⟨rows, hand⟩, p, d, ps, rfl, hp, hl, hr, hh, hQ⟩ := h
  have hl : rows.length ≤ 1000 := hl
  have hQ := ret_same (K := K) hQ
  simp [t_miss, t_miss_8, eSta, eRows]
  refine ⟨fun hlt => ⟨r, rfl, ?_⟩, fun hge => ?_⟩
  · simp only [missF, if_pos hlt, eMis, eSta, eRows, ← app_rows] at hQ
    simpa [eRow, eOpt] using ⟨by omega, hQ⟩
  simp [t_miss_7]
  refine ⟨r, (rows, hand), d, ps, rfl, hp, hl, hr, hh, ?_⟩
  have hge' : ¬ ((rows.length : Int) < size) := by omega
  simp only [missF, if_neg hge'] at hQ
  cases hL : loserF r (rows, hand) ps with
  | none =>
    rw [hL] at hQ
    simpa [t_miss_6, eLos, isN, eMis] using hQ
  | some x =>
    obtain ⟨i, rows', h'⟩ := x
    obtain ⟨l1, l2, l3, l4⟩ := loserF_lt hr hh hL
    have l1 : i < rows'.length := l1
    have l2 : rows'.length = rows.length := l2
    rw [hL] at hQ
    have ha := at_rows l1
    have e0 : atI [dI (rwA rows' i).1, dI (rwA rows' i).2] 0 = some (dI (rwA rows' i).1) := rfl
    have hol : (outF rows' i).length ≤ 2000 := by
      unfold outF
      rw [List.length_append, List.length_take, List.length_drop]
      omega
    simp [t_miss_6, eLos, isN, t_miss_5, t_miss_4, eRows]
    refine ⟨_, ha, ?_⟩
    simp [eRow, e0, t_miss_3]
    have hz : min i rows'.length + 1 + (rows'.length - (i + 1)) ≤ 2000 := by omega
    refine ⟨fun hc => ?_, fun hc => ?_⟩
    · simp only [if_pos hc, eMis, eSta, eRows, eOpt] at hQ
      refine ⟨by omega, by omega, by omega, ?_⟩
      have el : (rows'.take i ++ [(p, (1 : Int))] ++ rows'.drop (i + 1)).length = min i rows'.length + 1 + (rows'.length - (i + 1)) := by
        simp
        omega
      have em : (((i : Int) + 1) % (((min i rows'.length : Nat) : Int) + 1 + ((rows'.length - (i + 1) : Nat) : Int))) = (((i + 1) % (rows'.take i ++ [(p, (1 : Int))] ++ rows'.drop (i + 1)).length : Nat) : Int) := by
        rw [el]
        simp
      have er : List.take i (List.map eRow rows') ++ D.tup [dI p, dI 1] :: List.drop (i + 1) (List.map eRow rows') = (rows'.take i ++ [(p, (1 : Int))] ++ rows'.drop (i + 1)).map eRow := by
        rw [take_rows, drop_rows, List.map_append, List.map_append, List.append_assoc]
        rfl
      rw [er, em]
      exact hQ
    · simp only [if_neg hc, eMis, eSta, eRows, eOpt] at hQ
      simp [t_miss_2, t_miss_1]
      refine ⟨by omega, r, rfl, by omega, ?_⟩
      have er : List.take i (List.map eRow rows') ++ (List.drop (i + 1) (List.map eRow rows') ++ [D.tup [dI p, dI (markF r)]]) = (outF rows' i ++ [(p, markF r)]).map eRow := by
        rw [← List.append_assoc, out_rows, List.map_append]
        rfl
      rw [er]
      exact hQ
end
end Cb

set_option Elab.async false
set_option linter.all false
set_option maxRecDepth 100000
set_option maxHeartbeats 4000000
/-! What the program's defs compute: a cache, opened and closed. -/
namespace Cb
open PySem PySem.Spec PyProof.Rows L2 Dl
structure Snap where
  size : Int
  st : Sta
  kept : List Int
  asks : Int
  misses : Int
structure CM where
  rule : Str
  size : Int
  st : Sta
  kept : List Int
  asks : Int
  misses : Int
  pts : List (Str × Snap)
def CM.pages (c : CM) : List Int := c.st.1.map (·.1)
def keptD (ks : List Int) : List (Key × D) := ks.map fun p => (Sum.inl p, dB true)
def snapD (a : Addr) (s : Snap) : D := .tup [dI s.size, eSta s.st, dR a, dI s.asks, dI s.misses]
def ptsD (pa : List Addr) (ps : List (Str × Snap)) : List (Key × D) := List.zipWith (fun a p => (Sum.inr p.1, snapD a p.2)) pa ps
def snapL (pa : List Addr) (ps : List (Str × Snap)) : List (Addr × MO) := List.zipWith (fun a p => (a, MO.dct (keptD p.2.kept))) pa ps
def flds (c : CM) (k t : Addr) : List (Str × D) := [("rule", dS c.rule), ("size", dI c.size), ("state", eSta c.st), ("kept", dR k), ("asks", dI c.asks), ("misses", dI c.misses), ("points", dR t)]
abbrev cC (K : PySem.W.Frag) : Addr := He.ga K "Cache"
def SC (K : PySem.W.Frag) (c : CM) : MO → List (Addr × MO) → Prop := fun m L => ∃ dx k t pa, pa.length = c.pts.length ∧ m = .ins (cC K) dx (flds c k t) ∧ L = (k, .dct (keptD c.kept)) :: (t, .dct (ptsD pa c.pts)) :: snapL pa c.pts
def CMo (K : PySem.W.Frag) (c : CM) : MO := absS K (SC K c)
/-- the opened heap -/
def GC (K : PySem.W.Frag) (G : GH) (r dx k t : Addr) (pa : List Addr) (c : CM) : GH := gus (gu G r (.ins (cC K) dx (flds c k t))) ((k, .dct (keptD c.kept)) :: (t, .dct (ptsD pa c.pts)) :: snapL pa c.pts)
structure Own (G : GH) (r k t : Addr) (pa : List Addr) : Prop where
  nd : (k :: t :: pa).Nodup
  fr : ∀ a ∈ k :: t :: pa, G a = none ∧ a ≠ r
theorem snapL_keys : ∀ (pa : List Addr) (ps : List (Str × Snap)), pa.length = ps.length → (snapL pa ps).map (·.1) = pa
  | [], [], _ => rfl
  | [], _ :: _, h => by simp at h
  | _ :: _, [], h => by simp at h
  | a :: pa, p :: ps, h => by
    show a :: (snapL pa ps).map (·.1) = a :: pa
    rw [snapL_keys pa ps (by simpa using h)]
section
variable {K : PySem.W.Frag} {G : GH} {r dx k t : Addr} {pa : List Addr} {c : CM}
theorem gus_gu {X : GH} {m : MO} {a : Addr} : ∀ {L : List (Addr × MO)}, a ∉ L.map (·.1) → gu (gus X L) a m = gus (gu X a m) L
  | [], _ => rfl
  | (b, n) :: L, h => by
    rw [List.map_cons, List.mem_cons, not_or] at h
    show gu (gu (gus X L) b n) a m = gu (gus (gu X a m) L) b n
    rw [gu_comm (Ne.symm h.1), gus_gu h.2]
theorem Own.keys (o : Own G r k t pa) (hl : pa.length = c.pts.length) : (((k, MO.dct (keptD c.kept)) :: (t, MO.dct (ptsD pa c.pts)) :: snapL pa c.pts).map (·.1)) = k :: t :: pa := by
  rw [List.map_cons, List.map_cons, snapL_keys pa c.pts hl]
theorem Own.r_at (o : Own G r k t pa) (hl : pa.length = c.pts.length) : GC K G r dx k t pa c r = some (.ins (cC K) dx (flds c k t)) := by
  unfold GC
  rw [gus_ne (by rw [o.keys hl]; exact fun h => (o.fr r h).2 rfl), gu_same]
theorem Own.k_at (o : Own G r k t pa) (hl : pa.length = c.pts.length) : GC K G r dx k t pa c k = some (.dct (keptD c.kept)) := gu_same
theorem Own.t_at (o : Own G r k t pa) (hl : pa.length = c.pts.length) : GC K G r dx k t pa c t = some (.dct (ptsD pa c.pts)) := by
  have hne : t ≠ k := fun e => by
    have := o.nd
    rw [List.nodup_cons] at this
    exact this.1 (by rw [e]; exact List.mem_cons_self)
  show gu (gu _ t _) k _ t = _
  rw [gu_ne hne, gu_same]
theorem Own.snap_at (o : Own G r k t pa) (hl : pa.length = c.pts.length) {a : Addr} {m : MO} (h : (a, m) ∈ snapL pa c.pts) : GC K G r dx k t pa c a = some m := by
  unfold GC
  refine gus_at ?_ (List.mem_cons_of_mem _ (List.mem_cons_of_mem _ h))
  rw [o.keys hl]
  exact o.nd
theorem Own.else_ (o : Own G r k t pa) (hl : pa.length = c.pts.length) {b : Addr} (hr : b ≠ r) (h : b ∉ k :: t :: pa) : GC K G r dx k t pa c b = G b := by
  unfold GC
  rw [gus_ne (by rw [o.keys hl]; exact h), gu_ne hr]
theorem Own.old (o : Own G r k t pa) (hl : pa.length = c.pts.length) {b : Addr} {m : MO} (hr : b ≠ r) (h : G b = some m) : GC K G r dx k t pa c b = some m := by
  rw [o.else_ hl hr (fun hb => by rw [(o.fr b hb).1] at h; cases h), h]
theorem Own.fresh (o : Own G r k t pa) (hl : pa.length = c.pts.length) {p : Addr} (h : GC K G r dx k t pa c p = none) : p ≠ r ∧ p ∉ k :: t :: pa ∧ G p = none := by
  have h1 : p ≠ r := fun e => by rw [e, o.r_at hl] at h; cases h
  have h2 : p ∉ k :: t :: pa := fun hm => by
    rw [← o.keys hl] at hm
    obtain ⟨⟨a, m⟩, hq, e⟩ := List.mem_map.mp hm
    have e : a = p := e
    subst e
    have := gus_at (G := gu G r (.ins (cC K) dx (flds c k t))) (by rw [o.keys hl]; exact o.nd) hq
    have h' : gus (gu G r (.ins (cC K) dx (flds c k t))) ((k, .dct (keptD c.kept)) :: (t, .dct (ptsD pa c.pts)) :: snapL pa c.pts) a = none := h
    rw [this] at h'
    cases h'
  exact ⟨h1, h2, by rw [o.else_ hl h1 h2] at h; exact h⟩
/-- a field written -/
theorem Own.put_r (o : Own G r k t pa) (hl : pa.length = c.pts.length) {c' : CM} (hk : c'.kept = c.kept) (hp : c'.pts = c.pts) : gu (GC K G r dx k t pa c) r (.ins (cC K) dx (flds c' k t)) = GC K G r dx k t pa c' := by
  unfold GC
  rw [gus_gu (by rw [o.keys hl]; exact fun h => (o.fr r h).2 rfl), gu_gu, hk, hp]
theorem put_k {ks : List Int} : gu (GC K G r dx k t pa c) k (.dct (keptD ks)) = GC K G r dx k t pa { c with kept := ks } := by
  unfold GC
  show gu (gu _ k _) k _ = gu _ k _
  rw [gu_gu]
  rfl
/-- opened -/
theorem open_c {H : Hp} (g : RelG K G H) (h : G r = some (CMo K c)) : ∃ dx k t pa, pa.length = c.pts.length ∧ Own G r k t pa ∧ RelG K (GC K G r dx k t pa c) H := by
  obtain ⟨m, L, ⟨dx, k, t, pa, hl, rfl, rfl⟩, hn, hf, g'⟩ := g.open_ h
  have ek : ((k, MO.dct (keptD c.kept)) :: (t, MO.dct (ptsD pa c.pts)) :: snapL pa c.pts).map (·.1) = k :: t :: pa := by
    rw [List.map_cons, List.map_cons, snapL_keys pa c.pts hl]
  refine ⟨dx, k, t, pa, hl, ⟨by rw [← ek]; exact hn, fun a ha => ?_⟩, g'⟩
  rw [← ek] at ha
  obtain ⟨q, hq, e⟩ := List.mem_map.mp ha
  rw [← e]
  exact hf q hq
theorem chg_L : ∀ q ∈ (k, MO.dct (keptD c.kept)) :: (t, MO.dct (ptsD pa c.pts)) :: snapL pa c.pts, ChgM q.2 := by
  intro q hq
  rcases List.mem_cons.mp hq with rfl | hq
  · trivial
  · rcases List.mem_cons.mp hq with rfl | hq
    · trivial
    · unfold snapL at hq
      obtain ⟨i, hi, e⟩ := List.mem_iff_getElem.mp hq
      rw [← e, List.getElem_zipWith]
      trivial
/-- closed: G1 knows the opened heap, what else is known is known in G2 -/
theorem close_c {G1 : GH} (o : Own G r k t pa) (hl : pa.length = c.pts.length) (h : Le (GC K G r dx k t pa c) G1) : Ent K G1 (gu G r (CMo K c)) := by
  refine (Ent.le h).trans ?_
  refine (Ent.close (S := SC K c) (L := (k, .dct (keptD c.kept)) :: (t, .dct (ptsD pa c.pts)) :: snapL pa c.pts) (o.r_at hl) trivial (by rw [o.keys hl]; exact o.nd) (fun q hq => ⟨?_, ?_, chg_L q hq⟩) ⟨dx, k, t, pa, hl, rfl, rfl⟩).trans (Ent.le fun b m e => ?_)
  · unfold GC
    exact gus_at (by rw [o.keys hl]; exact o.nd) hq
  · exact (o.fr q.1 (by rw [← o.keys (c := c) hl]; exact List.mem_map.mpr ⟨q, hq, rfl⟩)).2
  · unfold hideG
    by_cases q : b = r
    · subst q
      rw [gu_same] at e
      rw [if_pos rfl]
      exact e
    · rw [gu_ne q] at e
      have nb : b ∉ k :: t :: pa := fun hb => by rw [(o.fr b hb).1] at e; cases e
      rw [if_neg q, o.keys hl, if_neg nb, o.else_ hl q nb, e]
theorem close_put {G1 : GH} {c' : CM} (o : Own G r k t pa) (hl : pa.length = c.pts.length) (h : Le (GC K G r dx k t pa c) G1) (hk : c'.kept = c.kept) (hp : c'.pts = c.pts) : Ent K (gu G1 r (.ins (cC K) dx (flds c' k t))) (gu G r (CMo K c')) := by
  refine close_c (dx := dx) o (by rw [hp]; exact hl) ?_
  rw [← o.put_r (c := c) hl hk hp]
  exact h.gu
theorem Own.more (o : Own G r k t pa) {p : Addr} {m : MO} (h : p ∉ k :: t :: pa) : Own (gu G p m) r k t pa := ⟨o.nd, fun a ha => ⟨by rw [gu_ne (fun e : a = p => h (by rw [← e]; exact ha))]; exact (o.fr a ha).1, (o.fr a ha).2⟩⟩
theorem GC_gu (o : Own G r k t pa) (hl : pa.length = c.pts.length) {p : Addr} {m : MO} (hr : p ≠ r) (h : p ∉ k :: t :: pa) : gu (GC K G r dx k t pa c) p m = GC K (gu G p m) r dx k t pa c := by
  unfold GC
  rw [gus_gu (by rw [o.keys hl]; exact h), gu_comm (Ne.symm hr)]
end
/-! ### the fields -/
@[simp] theorem look_rule (c : CM) (k t : Addr) : lookS "rule" (flds c k t) = some (dS c.rule) := rfl
@[simp] theorem look_size (c : CM) (k t : Addr) : lookS "size" (flds c k t) = some (dI c.size) := rfl
@[simp] theorem look_state (c : CM) (k t : Addr) : lookS "state" (flds c k t) = some (eSta c.st) := rfl
@[simp] theorem look_kept (c : CM) (k t : Addr) : lookS "kept" (flds c k t) = some (dR k) := rfl
@[simp] theorem look_asks (c : CM) (k t : Addr) : lookS "asks" (flds c k t) = some (dI c.asks) := rfl
@[simp] theorem look_misses (c : CM) (k t : Addr) : lookS "misses" (flds c k t) = some (dI c.misses) := rfl
@[simp] theorem look_points (c : CM) (k t : Addr) : lookS "points" (flds c k t) = some (dR t) := rfl
@[simp] theorem put_size (c : CM) (k t : Addr) (i : Int) : putS "size" (dI i) (flds c k t) = flds { c with size := i } k t := rfl
@[simp] theorem put_state (c : CM) (k t : Addr) (s : Sta) : putS "state" (eSta s) (flds c k t) = flds { c with st := s } k t := rfl
@[simp] theorem put_kept (c : CM) (k t k' : Addr) : putS "kept" (dR k') (flds c k t) = flds c k' t := rfl
@[simp] theorem put_asks (c : CM) (k t : Addr) (i : Int) : putS "asks" (dI i) (flds c k t) = flds { c with asks := i } k t := rfl
@[simp] theorem put_misses (c : CM) (k t : Addr) (i : Int) : putS "misses" (dI i) (flds c k t) = flds { c with misses := i } k t := rfl
@[simp] theorem len_flds (c : CM) (k t : Addr) : (flds c k t).length = 7 := rfl
end Cb

set_option Elab.async false
set_option linter.all false
set_option maxRecDepth 100000
set_option maxHeartbeats 4000000
/-! What the program's defs compute: a cache's calls. -/
namespace Cb
open PySem PySem.Spec PyProof.Rows L2 Dl
structure WFs (rule : Str) (st : Sta) (kept : List Int) (size : Int) : Prop where
  len : st.1.length ≤ 6
  hand : st.2 = 0 ∨ (rule = "clock" ∧ st.2 < st.1.length)
  kn : kept.Nodup
  k9 : ∀ p ∈ kept, 0 ≤ p ∧ p ≤ 9
  sz : 1 ≤ size ∧ size ≤ 6
structure WFc (c : CM) : Prop where
  rule : c.rule ∈ ruleIx
  now : WFs c.rule c.st c.kept c.size
  pts : ∀ q ∈ c.pts, WFs c.rule q.2.st q.2.kept q.2.size
theorem WFs.handOk {rule : Str} {st : Sta} {kept : List Int} {size : Int} (w : WFs rule st kept size) : Hand rule st := fun h => by
  rcases w.hand with h0 | ⟨_, h1⟩
  · cases e : st.1 with
    | nil => exact .inl rfl
    | cons a as => right; rw [h0]; simp
  · exact .inr h1
theorem few {n : Nat} : ∀ {l : List Int}, l.Nodup → (∀ p ∈ l, 0 ≤ p ∧ p < n) → l.length ≤ n := by
  induction n with
  | zero =>
    intro l _ h
    cases l with
    | nil => simp
    | cons a as => have := h a List.mem_cons_self; omega
  | succ n ih =>
    intro l hn h
    have h1 := ih (l := l.filter (fun (p : Int) => decide (p ≠ (n : Int)))) (hn.sublist List.filter_sublist) fun p hp => by
      obtain ⟨h1, h2⟩ := List.mem_filter.mp hp
      have := h p h1
      have : p ≠ n := by simpa using h2
      omega
    have h2 : l.length ≤ (l.filter (fun (p : Int) => decide (p ≠ (n : Int)))).length + 1 := by
      clear h1 ih h
      induction l with
      | nil => simp
      | cons a as ih =>
        rw [List.nodup_cons] at hn
        by_cases e : a = n
        · have : as.filter (fun (p : Int) => decide (p ≠ (n : Int))) = as := by
            rw [List.filter_eq_self]
            intro p hp
            simp only [decide_eq_true_eq]
            rintro rfl
            exact hn.1 (by rw [e]; exact hp)
          rw [List.filter_cons_of_neg (by simp [e]), this]
          simp
        · rw [List.filter_cons_of_pos (by simpa using e)]
          have := ih hn.2
          simp only [List.length_cons]
          omega
    omega
theorem WFs.kl {rule : Str} {st : Sta} {kept : List Int} {size : Int} (w : WFs rule st kept size) : kept.length ≤ 10 := few (n := 10) w.kn fun p hp => by have := w.k9 p hp; omega
/-! ### the calls -/
def askF (c : CM) (p : Int) : Option (CM × Bool × Option Int) :=
  if p ∈ c.pages then some ({ c with st := hitF c.rule c.st p, asks := c.asks + 1 }, true, none)
  else match missF c.rule c.size c.st p c.kept with
    | none => none
    | some (st, o) => some ({ c with st := st, asks := c.asks + 1, misses := c.misses + 1 }, false, o)
def dsp_Cache_ask (K : PySem.W.Frag) : DSp := fun ds G Q E => ∃ r c d kd, ds = [dR r, d] ∧ kiD d G = some kd ∧ kd ≠ .lst ∧ kd ≠ .dct ∧ G r = some (CMo K c) ∧ WFc c ∧ (numB d 0 9 = false → E (He.ga K "BadPage") [] G) ∧
  ∀ p, d = dI p → 0 ≤ p → p ≤ 9 → match askF c p with
    | none => E (He.ga K "NoRoom") [] G
    | some (c', b, o) => Q (.tup [dB b, eOpt o]) (gu G r (CMo K c'))
abbrev N_Cache_ask : List Str := ["self", "page", "told", "gone"]
abbrev ps_Cache_ask : List Str := ["self", "page"]
@[simp] theorem st_Cache_ask (x0 x1 : D) : startD N_Cache_ask [x0, x1] = [some x0, some x1, none, none] := rfl
def t_Cache_ask_1 (K : PySem.W.Frag) (WD : XDW) : TDS := (dRet (dTup (dCons (dC (dB false)) (dCons (dVar 3) dNil))))
def t_Cache_ask_2 (K : PySem.W.Frag) (WD : XDW) : TDS := (dSeq (dFAug (He.ga K "Cache") "misses" (dVar 0) (dC (dI 1)) (fun i j => i + j))
  (t_Cache_ask_1 K WD))
def t_Cache_ask_3 (K : PySem.W.Frag) (WD : XDW) : TDS := (dSeq (dFAug (He.ga K "Cache") "asks" (dVar 0) (dC (dI 1)) (fun i j => i + j))
  (t_Cache_ask_2 K WD))
def t_Cache_ask_4 (K : PySem.W.Frag) (WD : XDW) : TDS := (dSeq (dAsg (dVar 2) (gT 2 (gC (gF (He.ga K "Cache") "state" (dVar 0)) (gC (gN 3) gE))))
  (t_Cache_ask_3 K WD))
def t_Cache_ask_5 (K : PySem.W.Frag) (WD : XDW) : TDS := (dSeq (dIfS (dTest (dOp dIs (dVar 2) (dC dN))) (dRaise WD (He.ga K "NoRoom") []) dNext)
  (t_Cache_ask_4 K WD))
def t_Cache_ask_6 (K : PySem.W.Frag) (WD : XDW) : TDS := (dSeq (dAsg (dCall (dsp_miss K) WD (dCons (dFld (He.ga K "Cache") "rule" (dVar 0)) (dCons (dFld (He.ga K "Cache") "size" (dVar 0)) (dCons (dFld (He.ga K "Cache") "state" (dVar 0)) (dCons (dVar 1) (dCons (dFld (He.ga K "Cache") "kept" (dVar 0)) dNil)))))) (gN 2))
  (t_Cache_ask_5 K WD))
def t_Cache_ask_7 (K : PySem.W.Frag) (WD : XDW) : TDS := (dSeq (dIfS (dTest (dOp dIn (dVar 1) (dCall (dsp_pages_of K) WD (dCons (dFld (He.ga K "Cache") "state" (dVar 0)) dNil)))) (dSeq (dAsg (dCall (dsp_hit K) WD (dCons (dFld (He.ga K "Cache") "rule" (dVar 0)) (dCons (dFld (He.ga K "Cache") "state" (dVar 0)) (dCons (dVar 1) dNil)))) (gF (He.ga K "Cache") "state" (dVar 0)))
  (dSeq (dFAug (He.ga K "Cache") "asks" (dVar 0) (dC (dI 1)) (fun i j => i + j))
  (dRet (dTup (dCons (dC (dB true)) (dCons (dC dN) dNil)))))) dNext)
  (t_Cache_ask_6 K WD))
def t_Cache_ask (K : PySem.W.Frag) (WD : XDW) : TDS := (dGhost K (dSeq (dIfS (dNot (dTest (dCall (dsp_is_number K) WD (dCons (dVar 1) (dCons (dC (dI 0)) (dCons (dC (dI 9)) dNil)))))) (dRaise WD (He.ga K "BadPage") []) dNext)
  (t_Cache_ask_7 K WD)))
theorem ghost_c {K : PySem.W.Frag} {G : GH} {r : Addr} {c : CM} {t : TDS} {E : DEnds} {δ : DSt} (h : G r = some (CMo K c)) (q : ∀ dx k tt pa, pa.length = c.pts.length → Own G r k tt pa → t E δ (GC K G r dx k tt pa c)) : dGhost K t E δ G := by
  refine ⟨fun G1 => ∃ dx k tt pa, pa.length = c.pts.length ∧ Own G r k tt pa ∧ G1 = GC K G r dx k tt pa c, fun H g => ?_, ?_⟩
  · obtain ⟨dx, k, tt, pa, hl, o, g'⟩ := open_c g h
    exact ⟨_, ⟨dx, k, tt, pa, hl, o, rfl⟩, g'⟩
  · rintro _ ⟨dx, k, tt, pa, hl, o, rfl⟩
    exact q dx k tt pa hl o
theorem pin_k {K : PySem.W.Frag} {G G1 : GH} {r dx k t : Addr} {pa : List Addr} {c : CM} (o : Own G r k t pa) (hl : pa.length = c.pts.length) (h : Le (GC K G r dx k t pa c) G1) : PinOk G1 (dR k) c.kept := by
  refine .inr (.inr ⟨k, _, rfl, h _ _ (o.k_at hl), ?_⟩)
  unfold keptD
  rw [List.map_map]
  rfl
theorem gu_id {G : GH} {r : Addr} {m : MO} (h : G r = some m) : gu G r m = G := gu_self h
section
variable {K : PySem.W.Frag} {ds : List D} {G : GH} {QD : DK} {ED : XD}
theorem len_Cache_ask {Q : DK} {E : XD} (h : dsp_Cache_ask K ds G Q E) : ds.length = ps_Cache_ask.length := by
  obtain ⟨_, _, _, _, rfl, _⟩ := h; rfl
theorem numB_int {d : D} {lo hi : Int} (h : numB d lo hi = true) : ∃ p, d = dI p ∧ lo ≤ p ∧ p ≤ hi := by
  unfold numB at h
  split at h
  · rename_i i
    rw [Bool.and_eq_true, decide_eq_true_eq, decide_eq_true_eq] at h
    exact ⟨i, rfl, h.1, h.2⟩
  · cases h
theorem kiD_le {d : D} {G G1 : GH} {kd : Ki} (h : kiD d G = some kd) (h1 : kd ≠ .lst) (h2 : kd ≠ .dct) : kiD d G1 = some kd := by
  unfold kiD at h ⊢
  split at h
  · exact h
  · exact h
  · exact h
  · exact h
  · rename_i a
    exfalso
    unfold kiMO at h
    split at h
    · cases h; exact h1 rfl
    · cases h; exact h2 rfl
    · cases h
  · exact h
  · cases h
theorem pure_Cache_ask (h : dsp_Cache_ask K ds G QD ED) : t_Cache_ask K (excD K ED) (retD K QD) (startD N_Cache_ask ds) G := by
  obtain ⟨r, c, d, kd, rfl, hk, k1, k2, hr, wf, hbad, hok⟩ := h
  unfold t_Cache_ask
  refine ghost_c hr fun dx k t pa hl o => ?_
  have back : ∀ G1, Le (GC K G r dx k t pa c) G1 → Ent K G1 G := fun G1 hle => by
    have := close_c o hl hle
    rw [gu_id hr] at this
    exact this
  have hk' := kiD_le (G1 := GC K G r dx k t pa c) hk k1 k2
  simp
  refine ⟨d, 0, 9, kd, rfl, hk', ?_⟩
  refine ⟨fun hn => ?_, fun hn => ?_⟩
  · exact ⟨G, back _ (Le.refl _), hbad (by simpa using hn)⟩
  · obtain ⟨p, rfl, hp0, hp9⟩ := numB_int (by simpa using hn)
    have hok := hok p rfl hp0 hp9
    simp [t_Cache_ask_7]
    refine d_fld rfl (o.r_at hl) (look_state ..) ⟨c.st, rfl, by have := wf.now.len; omega, fun q hq => ?_⟩
    obtain ⟨q1, q2, q3⟩ := o.fresh hl hq
    have hle : Le (GC K G r dx k t pa c) (gu (GC K G r dx k t pa c) q (.lst (c.st.1.map fun r => dI r.1))) := Le.new hq
    generalize hG1 : gu (GC K G r dx k t pa c) q (.lst (c.st.1.map fun r => dI r.1)) = G1 at hle ⊢
    have hpin : PinOk G1 (dR q) c.pages := .inr (.inl ⟨q, rfl, by rw [← hG1, gu_same, CM.pages, List.map_map]; rfl⟩)
    have hr1 : G1 r = some (.ins (cC K) dx (flds c k t)) := hle _ _ (o.r_at hl)
    refine in_pins hpin ?_
    simp
    refine ⟨fun hin => ?_, fun hin => ?_⟩
    · refine d_fld rfl hr1 (look_rule ..) (d_fld rfl hr1 (look_state ..) ⟨c.rule, c.st, p, rfl, by have := wf.now.len; omega, ?_⟩)
      refine g_fld rfl hr1 (by simp) ?_
      refine d_faug (x := c.asks) rfl gu_same rfl (by simp) ?_
      rw [gu_gu]
      simp only [askF, if_pos hin] at hok
      simp
      exact ⟨_, close_put o hl hle rfl rfl, hok⟩
    · simp only [askF, if_neg hin] at hok
      simp [t_Cache_ask_6]
      refine d_fld rfl hr1 (look_rule ..) (d_fld rfl hr1 (look_size ..) (d_fld rfl hr1 (look_state ..) (d_fld rfl hr1 (look_kept ..) ⟨c.rule, c.size, c.st, p, dR k, c.kept, rfl, pin_k o hl hle, by have := wf.now.len; omega, wf.rule, wf.now.handOk, ?_⟩)))
      cases hm : missF c.rule c.size c.st p c.kept with
      | none =>
        rw [hm] at hok
        simp [t_Cache_ask_5, eMis, isN]
        exact ⟨G, back _ hle, hok⟩
      | some x =>
        obtain ⟨st, w⟩ := x
        rw [hm] at hok
        simp [t_Cache_ask_5, eMis, isN, t_Cache_ask_4]
        refine g_fld rfl hr1 (by simp) ?_
        simp [t_Cache_ask_3]
        refine d_faug (x := c.asks) rfl gu_same rfl (by simp) ?_
        simp [t_Cache_ask_2]
        refine d_faug (x := c.misses) rfl gu_same rfl (by simp) ?_
        simp [t_Cache_ask_1]
        exact ⟨_, close_put o hl hle rfl rfl, hok⟩
end
end Cb

set_option Elab.async false
set_option linter.all false
set_option maxRecDepth 100000
set_option maxHeartbeats 4000000
/-! What the program's defs compute: a cache's other calls. -/
namespace Cb
open PySem PySem.Spec PyProof.Rows L2 Dl
/-- the rows at r may be read -/
def Sees (K : PySem.W.Frag) (G : GH) (r : Addr) (s : Sta) : Prop := ∀ H, RelG K G H → ∃ G1, RelG K G1 H ∧ (∃ dx fs, G1 r = some (.ins (cC K) dx fs) ∧ lookS "state" fs = some (eSta s)) ∧ Ent K G1 G
theorem sees_c {K : PySem.W.Frag} {G : GH} {r : Addr} {c : CM} (h : G r = some (CMo K c)) : Sees K G r c.st := fun H g => by
  obtain ⟨dx, k, t, pa, hl, o, g'⟩ := open_c g h
  refine ⟨_, g', ⟨dx, _, o.r_at hl, look_state ..⟩, ?_⟩
  have := close_c o hl (Le.refl (GC K G r dx k t pa c))
  rw [gu_id h] at this
  exact this
theorem sees_o {K : PySem.W.Frag} {G : GH} {r dx : Addr} {fs : List (Str × D)} {s : Sta} (h : G r = some (.ins (cC K) dx fs)) (hl : lookS "state" fs = some (eSta s)) : Sees K G r s := fun H g => ⟨G, g, ⟨dx, fs, h, hl⟩, Ent.refl G⟩
def dsp_Cache_place_of (K : PySem.W.Frag) : DSp := fun ds G Q E => ∃ r s d kd, ds = [dR r, d] ∧ kiD d G = some kd ∧ kd ≠ .lst ∧ kd ≠ .dct ∧ Sees K G r s ∧ s.1.length ≤ 1000 ∧
  ((numB d 0 9 = false ∨ ∃ p, d = dI p ∧ p ∉ pagesS s) → E (He.ga K "BadPage") [] G) ∧ ∀ p, d = dI p → 0 ≤ p → p ≤ 9 → p ∈ pagesS s → Q (dI ((pagesS s).idxOf p : Nat)) G
abbrev N_Cache_place_of : List Str := ["self", "page"]
abbrev ps_Cache_place_of : List Str := ["self", "page"]
@[simp] theorem st_Cache_place_of (x0 x1 : D) : startD N_Cache_place_of [x0, x1] = [some x0, some x1] := rfl
def t_Cache_place_of (K : PySem.W.Frag) (WD : XDW) : TDS := (dGhost K (dSeq (dIfS (dOr (dNot (dTest (dCall (dsp_is_number K) WD (dCons (dVar 1) (dCons (dC (dI 0)) (dCons (dC (dI 9)) dNil)))))) (dTest (dOp dNotin (dVar 1) (dCall (dsp_pages_of K) WD (dCons (dFld (He.ga K "Cache") "state" (dVar 0)) dNil))))) (dRaise WD (He.ga K "BadPage") []) dNext)
  (dRet (dBm "list" dIndex (dCall (dsp_pages_of K) WD (dCons (dFld (He.ga K "Cache") "state" (dVar 0)) dNil)) (dCons (dVar 1) dNil)))))
theorem isins_c {K : PySem.W.Frag} {G : GH} {r : Addr} {c : CM} {m : Str} (h : G r = some (CMo K c)) (hm : ∀ k t, lookS m (flds c k t) = none) : IsIns K (cC K) m G r := fun H g => by
  obtain ⟨dx, k, t, pa, hl, o, g'⟩ := open_c g h
  exact IsIns.of (o.r_at hl) (hm k t) H g'
theorem any_keptD (p : Int) (ks : List Int) : (keptD ks).any (fun kv => decide (kv.1 = Sum.inl p)) = decide (p ∈ ks) := by
  unfold keptD
  induction ks with
  | nil => rfl
  | cons q ks ih =>
    rw [List.map_cons, List.any_cons, ih]
    by_cases e : q = p
    · subst e; simp
    · simp [e, Ne.symm e]
theorem put_keptD (p : Int) (ks : List Int) : putD (keptD ks) (Sum.inl p) (dB true) = keptD (if p ∈ ks then ks else ks ++ [p]) := by
  unfold putD
  rw [any_keptD]
  by_cases h : p ∈ ks
  · rw [if_pos h]
    simp only [h, decide_true, if_true]
    unfold keptD
    rw [List.map_map]
    apply List.map_congr_left
    intro q _
    simp only [Function.comp]
    split <;> rfl
  · rw [if_neg h]
    simp only [h, decide_false, Bool.false_eq_true, if_false]
    unfold keptD
    rw [List.map_append]
    rfl
theorem drop_keptD (p : Int) (ks : List Int) : dropD (keptD ks) (Sum.inl p) = keptD (ks.filter fun q => decide (q ≠ p)) := by
  unfold dropD keptD
  rw [List.filter_map]
  congr 1
  apply List.filter_congr
  intro q _
  simp
theorem val_keptD (p : Int) (ks : List Int) : valD (keptD ks) (Sum.inl p) = if p ∈ ks then some (dB true) else none := by
  unfold valD keptD
  induction ks with
  | nil => rfl
  | cons q ks ih =>
    rw [List.map_cons]
    by_cases e : q = p
    · subst e
      rw [List.find?_cons_of_pos (by simp), if_pos List.mem_cons_self]; rfl
    · rw [List.find?_cons_of_neg (by simpa using e), ih]
      by_cases h : p ∈ ks
      · rw [if_pos h, if_pos (List.mem_cons_of_mem _ h)]
      · rw [if_neg h, if_neg (by simp [Ne.symm e, h])]
theorem keys_keptD (ks : List Int) : (keptD ks).map (·.1) = ks.map Sum.inl := by
  unfold keptD
  rw [List.map_map]
  rfl
def held (c : CM) (d : D) : Bool := match d with
  | .at (.int p) => decide (0 ≤ p ∧ p ≤ 9 ∧ p ∈ pagesS c.st)
  | _ => false
section
variable {K : PySem.W.Frag} {ds : List D} {G : GH} {QD : DK} {ED : XD}
theorem len_Cache_place_of {Q : DK} {E : XD} (h : dsp_Cache_place_of K ds G Q E) : ds.length = ps_Cache_place_of.length := by
  obtain ⟨_, _, _, _, rfl, _⟩ := h; rfl
theorem pages_lst (s : Sta) : (s.1.map fun r => dI r.1) = (pagesS s).map dI := by
  unfold pagesS
  rw [List.map_map]; rfl
theorem idx_dI {G : GH} {a : Addr} {ps : List Int} {p : Int} {Q : DK} (h : G a = some (.lst (ps.map dI))) (hp : p ∈ ps) (q : Q (dI (ps.idxOf p : Nat)) G) : dIndex (dR a) [dI p] G Q := by
  have hi := List.idxOf_lt_length_of_mem hp
  have he := List.getElem_idxOf hi
  refine ⟨_, ps.idxOf p, .int p, h, rfl, flat_ints ps, ?_, by simp [eqV], fun m z hm hz => ?_, q⟩
  · rw [List.getElem?_map, List.getElem?_eq_getElem hi, he]; rfl
  · rw [List.getElem?_map] at hz
    cases e : ps[m]? with
    | none => rw [e] at hz; cases hz
    | some x =>
      rw [e] at hz
      cases hz
      have hne : x ≠ p := by
        rintro rfl
        obtain ⟨hlt, e2⟩ := List.getElem?_eq_some_iff.mp e
        have := List.not_of_lt_findIdx (p := fun y => y == x) (xs := ps) hm
        simp [e2] at this
      simpa [eqV] using hne
theorem pure_Cache_place_of (h : dsp_Cache_place_of K ds G QD ED) : t_Cache_place_of K (excD K ED) (retD K QD) (startD N_Cache_place_of ds) G := by
  obtain ⟨r, s, d, kd, rfl, hk, k1, k2, hs, hl, hbad, hok⟩ := h
  unfold t_Cache_place_of
  refine ⟨fun G1 => (∃ dx fs, G1 r = some (.ins (cC K) dx fs) ∧ lookS "state" fs = some (eSta s)) ∧ Ent K G1 G, fun H g => ?_, ?_⟩
  · obtain ⟨G1, a, b, c⟩ := hs H g
    exact ⟨G1, ⟨b, c⟩, a⟩
  rintro G1 ⟨⟨dx, fs, hr, hf⟩, back⟩
  have hk' := kiD_le (G1 := G1) hk k1 k2
  simp
  refine ⟨d, 0, 9, kd, rfl, hk', ?_⟩
  refine ⟨fun hn => ?_, fun hn => ?_⟩
  · exact ⟨G, back, hbad (.inl (by simpa using hn))⟩
  · obtain ⟨p, rfl, hp0, hp9⟩ := numB_int (by simpa using hn)
    refine d_fld rfl hr hf ⟨s, rfl, hl, fun q hq => ?_⟩
    have hr1 : (gu G1 q (.lst (s.1.map fun r => dI r.1))) r = some (.ins (cC K) dx fs) := Le.new hq _ _ hr
    refine in_pins (ps := pagesS s) (.inr (.inl ⟨q, rfl, by rw [gu_same, pages_lst]⟩)) ?_
    simp
    refine ⟨fun hin => ?_, fun hin => ?_⟩
    · exact ⟨G, (ent_new hq).trans back, hbad (.inr ⟨p, rfl, hin⟩)⟩
    · refine d_fld rfl hr1 hf ⟨s, rfl, hl, fun q2 hq2 => ?_⟩
      refine ⟨.inl ⟨rfl, _, gu_same⟩, idx_dI (by rw [gu_same, pages_lst]) hin ?_⟩
      exact ⟨G, ((ent_new hq2).trans (ent_new hq)).trans back, hok p rfl hp0 hp9 hin⟩
/-! pin, unpin, drop -/
end
def pinF (c : CM) (p : Int) : CM := { c with kept := if p ∈ c.kept then c.kept else c.kept ++ [p] }
def unpinF (c : CM) (p : Int) : CM := { c with kept := c.kept.filter fun q => decide (q ≠ p) }
def dropF (c : CM) (p : Int) : CM := { c with st := withoutF c.st ((pagesS c.st).idxOf p), kept := c.kept.filter fun q => decide (q ≠ p) }
/-- a call for a held page, else BadPage -/
def dspHeld (K : PySem.W.Frag) (F : CM → Int → CM) (R : CM → Int → D) : DSp := fun ds G Q E => ∃ r c d kd, ds = [dR r, d] ∧ kiD d G = some kd ∧ kd ≠ .lst ∧ kd ≠ .dct ∧ G r = some (CMo K c) ∧ WFc c ∧ (held c d = false → E (He.ga K "BadPage") [] G) ∧
  ∀ p, d = dI p → held c d = true → Q (R c p) (gu G r (CMo K (F c p)))
def dsp_Cache_pin (K : PySem.W.Frag) : DSp := dspHeld K pinF fun _ _ => dN
def dsp_Cache_unpin (K : PySem.W.Frag) : DSp := dspHeld K unpinF fun c p => dB (decide (p ∈ c.kept))
def dsp_Cache_drop (K : PySem.W.Frag) : DSp := dspHeld K dropF fun _ _ => dN
abbrev N_Cache_pin : List Str := ["self", "page"]
abbrev ps_Cache_pin : List Str := ["self", "page"]
@[simp] theorem st_Cache_pin (x0 x1 : D) : startD N_Cache_pin [x0, x1] = [some x0, some x1] := rfl
def t_Cache_pin (K : PySem.W.Frag) (WD : XDW) : TDS := (dGhost K (dSeq (dDrop (dMeth K (He.ga K "Cache") "place_of" (dsp_Cache_place_of K) WD (dVar 0) (dCons (dVar 1) dNil)))
  (dAsg (dC (dB true)) (gS (dFld (He.ga K "Cache") "kept" (dVar 0)) (dVar 1)))))
abbrev N_Cache_unpin : List Str := ["self", "page"]
abbrev ps_Cache_unpin : List Str := ["self", "page"]
@[simp] theorem st_Cache_unpin (x0 x1 : D) : startD N_Cache_unpin [x0, x1] = [some x0, some x1] := rfl
def t_Cache_unpin (K : PySem.W.Frag) (WD : XDW) : TDS := (dGhost K (dSeq (dDrop (dMeth K (He.ga K "Cache") "place_of" (dsp_Cache_place_of K) WD (dVar 0) (dCons (dVar 1) dNil)))
  (dRet (dPop2 (dFld (He.ga K "Cache") "kept" (dVar 0)) (dVar 1) (dC (dB false))))))
abbrev N_Cache_drop : List Str := ["self", "page"]
abbrev ps_Cache_drop : List Str := ["self", "page"]
@[simp] theorem st_Cache_drop (x0 x1 : D) : startD N_Cache_drop [x0, x1] = [some x0, some x1] := rfl
def t_Cache_drop (K : PySem.W.Frag) (WD : XDW) : TDS := (dGhost K (dSeq (dAsg (dCall (dsp_without K) WD (dCons (dFld (He.ga K "Cache") "state" (dVar 0)) (dCons (dMeth K (He.ga K "Cache") "place_of" (dsp_Cache_place_of K) WD (dVar 0) (dCons (dVar 1) dNil)) dNil))) (gF (He.ga K "Cache") "state" (dVar 0)))
  (dDrop (dPop2 (dFld (He.ga K "Cache") "kept" (dVar 0)) (dVar 1) (dC dN)))))
section
variable {K : PySem.W.Frag} {ds : List D} {G : GH} {QD : DK} {ED : XD}
theorem len_Cache_pin {Q : DK} {E : XD} (h : dsp_Cache_pin K ds G Q E) : ds.length = ps_Cache_pin.length := by
  obtain ⟨_, _, _, _, rfl, _⟩ := h; rfl
theorem len_Cache_unpin {Q : DK} {E : XD} (h : dsp_Cache_unpin K ds G Q E) : ds.length = ps_Cache_unpin.length := by
  obtain ⟨_, _, _, _, rfl, _⟩ := h; rfl
theorem len_Cache_drop {Q : DK} {E : XD} (h : dsp_Cache_drop K ds G Q E) : ds.length = ps_Cache_drop.length := by
  obtain ⟨_, _, _, _, rfl, _⟩ := h; rfl
/-- place_of inside -/
theorem place_in {G1 : GH} {r dx k t : Addr} {pa : List Addr} {c : CM} {d : D} {kd : Ki} {Q : DK} {E : XD} (o : Own G r k t pa) (hl : pa.length = c.pts.length) (hG : G1 = GC K G r dx k t pa c) (hk : kiD d G = some kd) (k1 : kd ≠ .lst) (k2 : kd ≠ .dct) (wf : WFc c) (hbad : held c d = false → E (He.ga K "BadPage") [] G1)
    (hok : ∀ p, d = dI p → held c d = true → p ∈ pagesS c.st → Q (dI ((pagesS c.st).idxOf p : Nat)) G1) : dsp_Cache_place_of K [dR r, d] G1 Q E := by
  subst hG
  refine ⟨r, c.st, d, kd, rfl, kiD_le hk k1 k2, k1, k2, sees_o (o.r_at hl) (look_state ..), by have := wf.now.len; omega, fun h => hbad ?_, fun p e h0 h9 hp => hok p e ?_ hp⟩
  · rcases h with h | ⟨p, rfl, hp⟩
    · unfold held
      split
      · rename_i p
        simp only [numB] at h
        rw [decide_eq_false_iff_not]
        rintro ⟨a, b, _⟩
        simp [a, b] at h
      · rfl
    · simp [held, hp]
  · subst e
    simp [held, h0, h9, hp]
theorem pure_Cache_pin (h : dsp_Cache_pin K ds G QD ED) : t_Cache_pin K (excD K ED) (retD K QD) (startD N_Cache_pin ds) G := by
  obtain ⟨r, c, d, kd, rfl, hk, k1, k2, hr, wf, hbad, hok⟩ := h
  unfold t_Cache_pin
  refine ghost_c hr fun dx k t pa hl o => ?_
  have back : Ent K (GC K G r dx k t pa c) G := by
    have := close_c o hl (Le.refl (GC K G r dx k t pa c))
    rw [gu_id hr] at this
    exact this
  simp
  refine d_meth rfl (IsIns.of (o.r_at hl) rfl) ?_
  simp
  refine place_in o hl rfl hk k1 k2 wf (fun h => ⟨G, back, hbad h⟩) fun p e hh hp => ?_
  subst e
  refine d_fld rfl (o.r_at hl) (look_kept ..) (.inr ⟨_, o.k_at hl, Sum.inl p, rfl, ?_, ?_⟩)
  · have := wf.now.kl
    unfold keptD
    rw [List.length_map]
    show c.kept.length < 16777216
    omega
  · rw [put_keptD, put_k]
    exact ⟨_, close_c (c := pinF c p) o hl (Le.refl _), hok p rfl hh⟩
theorem pure_Cache_unpin (h : dsp_Cache_unpin K ds G QD ED) : t_Cache_unpin K (excD K ED) (retD K QD) (startD N_Cache_unpin ds) G := by
  obtain ⟨r, c, d, kd, rfl, hk, k1, k2, hr, wf, hbad, hok⟩ := h
  unfold t_Cache_unpin
  refine ghost_c hr fun dx k t pa hl o => ?_
  have back : Ent K (GC K G r dx k t pa c) G := by
    have := close_c o hl (Le.refl (GC K G r dx k t pa c))
    rw [gu_id hr] at this
    exact this
  simp
  refine d_meth rfl (IsIns.of (o.r_at hl) rfl) ?_
  simp
  refine place_in o hl rfl hk k1 k2 wf (fun h => ⟨G, back, hbad h⟩) fun p e hh hp => ?_
  subst e
  refine d_fld rfl (o.r_at hl) (look_kept ..) ⟨⟨_, o.k_at hl⟩, ?_⟩
  simp
  refine ⟨_, o.k_at hl, Sum.inl p, rfl, fun x hx => ?_, fun hx => ?_⟩
  · rw [val_keptD] at hx
    by_cases hin : p ∈ c.kept
    · rw [if_pos hin] at hx
      cases hx
      have := hok p rfl hh
      simp only [hin, decide_true] at this
      rw [drop_keptD, put_k]
      exact ⟨_, close_c (c := unpinF c p) o hl (Le.refl _), this⟩
    · rw [if_neg hin] at hx; cases hx
  · rw [val_keptD] at hx
    by_cases hin : p ∈ c.kept
    · rw [if_pos hin] at hx; cases hx
    · have := hok p rfl hh
      have e : unpinF c p = c := by
        have : c.kept.filter (fun q => decide (q ≠ p)) = c.kept := by
          rw [List.filter_eq_self]
          intro q hq
          simp only [decide_eq_true_eq]
          rintro rfl
          exact hin hq
        unfold unpinF
        rw [this]
      rw [e, gu_id hr] at this
      simp only [hin, decide_false] at this
      exact ⟨G, back, this⟩
theorem pure_Cache_drop (h : dsp_Cache_drop K ds G QD ED) : t_Cache_drop K (excD K ED) (retD K QD) (startD N_Cache_drop ds) G := by
  obtain ⟨r, c, d, kd, rfl, hk, k1, k2, hr, wf, hbad, hok⟩ := h
  unfold t_Cache_drop
  refine ghost_c hr fun dx k t pa hl o => ?_
  have back : Ent K (GC K G r dx k t pa c) G := by
    have := close_c o hl (Le.refl (GC K G r dx k t pa c))
    rw [gu_id hr] at this
    exact this
  simp
  refine d_fld rfl (o.r_at hl) (look_state ..) (d_meth rfl (IsIns.of (o.r_at hl) rfl) ?_)
  simp
  refine place_in o hl rfl hk k1 k2 wf (fun h => ⟨G, back, hbad h⟩) fun p e hh hp => ?_
  subst e
  refine ⟨c.st, _, rfl, by have := wf.now.len; omega, ?_⟩
  refine g_fld rfl (o.r_at hl) (by simp) ?_
  simp
  have hput := o.put_r (dx := dx) (K := K) (c := c) hl (c' := { c with st := withoutF c.st ((pagesS c.st).idxOf p) }) rfl rfl
  rw [hput]
  refine d_fld rfl (o.r_at (c := { c with st := withoutF c.st ((pagesS c.st).idxOf p) }) hl) (look_kept ..) ⟨⟨_, o.k_at (c := { c with st := withoutF c.st ((pagesS c.st).idxOf p) }) hl⟩, ?_⟩
  simp
  refine ⟨_, o.k_at (c := { c with st := withoutF c.st ((pagesS c.st).idxOf p) }) hl, Sum.inl p, rfl, fun x hx => ?_, fun hx => ?_⟩
  · rw [drop_keptD, put_k]
    exact ⟨_, close_c (c := dropF c p) o hl (Le.refl _), hok p rfl hh⟩
  · have hx : valD (keptD c.kept) (Sum.inl p) = none := hx
    rw [val_keptD] at hx
    by_cases hin : p ∈ c.kept
    · rw [if_pos hin] at hx; cases hx
    · have := hok p rfl hh
      have e : dropF c p = { c with st := withoutF c.st ((pagesS c.st).idxOf p) } := by
        have : c.kept.filter (fun q => decide (q ≠ p)) = c.kept := by
          rw [List.filter_eq_self]
          intro q hq
          simp only [decide_eq_true_eq]
          rintro rfl
          exact hin hq
        unfold dropF
        rw [this]
      rw [e] at this
      exact ⟨_, close_c (c := { c with st := withoutF c.st ((pagesS c.st).idxOf p) }) o hl (Le.refl _), this⟩
end
end Cb

set_option Elab.async false
set_option linter.all false
set_option maxRecDepth 100000
set_option maxHeartbeats 4000000
/-! What the program's defs compute: what a cache tells, a new cache. -/
namespace Cb
open PySem PySem.Spec PyProof.Rows L2 Dl
def sortI (ps : List Int) : List Int := ps.mergeSort fun a b => decide (a ≤ b)
theorem sortI_pw (ps : List Int) : (sortI ps).Pairwise (· ≤ ·) := by
  have := List.pairwise_mergeSort (le := fun a b : Int => decide (a ≤ b)) (fun a b c h1 h2 => by simp at *; omega) (fun a b => by simp; omega) ps
  exact this.imp fun h => by simpa using h
theorem sortI_uniq {ys ps : List Int} (h : ys.Perm ps) (s : ys.Pairwise (· ≤ ·)) : ys = sortI ps :=
  List.Perm.eq_of_pairwise (le := (· ≤ ·)) (fun a b _ _ h1 h2 => Int.le_antisymm h1 h2) s (sortI_pw ps) (h.trans (List.mergeSort_perm _ _).symm)
theorem sort_dI (ps : List Int) : (ps.map dI).mergeSort (PySem.W.dataLe false py) = (sortI ps).map dI := by
  have e : PySem.W.dataLe false (fun i : Int => py (dI i)) = fun a b => decide (a ≤ b) := by
    have := PySem.W.dataLe_int (β := Int) (k := id)
    exact this
  unfold sortI
  rw [List.map_mergeSort (r := fun a b : Int => decide (a ≤ b)) (s := PySem.W.dataLe false py) (fun a _ b _ => (congrFun (congrFun e a) b).symm)]
def dsp_Cache_holds (K : PySem.W.Frag) : DSp := fun ds G Q _ => ∃ r c, ds = [dR r] ∧ G r = some (CMo K c) ∧ WFc c ∧ Q (.tup ((sortI (pagesS c.st)).map dI)) G
def dsp_Cache_order (K : PySem.W.Frag) : DSp := fun ds G Q _ => ∃ r c, ds = [dR r] ∧ G r = some (CMo K c) ∧ WFc c ∧ Q (.tup ((pagesS c.st).map dI)) G
def dsp_Cache_counts (K : PySem.W.Frag) : DSp := fun ds G Q _ => ∃ r c, ds = [dR r] ∧ G r = some (CMo K c) ∧ WFc c ∧ Q (.tup [dI c.asks, dI c.misses]) G
def dsp_Cache_pins (K : PySem.W.Frag) : DSp := fun ds G Q _ => ∃ r c, ds = [dR r] ∧ G r = some (CMo K c) ∧ WFc c ∧ ∀ q, G q = none → q ≠ r → Q (dR q) (gu G q (.lst ((sortI c.kept).map dI)))
def dsp_Cache_marks (K : PySem.W.Frag) : DSp := fun ds G Q _ => ∃ r c, ds = [dR r] ∧ G r = some (CMo K c) ∧ WFc c ∧ c.pts.length < 64 ∧ ∀ (ys : List Str) q, ys.Perm (c.pts.map (·.1)) → sortedS ys = true → G q = none → q ≠ r → Q (dR q) (gu G q (.lst (ys.map dS)))
def newC (rule : Str) (size : Int) : CM := ⟨rule, size, ([], 0), [], 0, 0, []⟩
def dsp_Cache_init (K : PySem.W.Frag) : DSp := fun ds G Q E => ∃ r dx G0 rule size, ds = [dR r, dS rule, dI size] ∧ G0 r = none ∧ G = gu G0 r (.ins (cC K) dx []) ∧ (rule ∉ ruleIx → E (He.ga K "BadRule") [] G) ∧ (rule ∈ ruleIx → ¬ (1 ≤ size ∧ size ≤ 6) → E (He.ga K "BadSize") [] G) ∧
  (rule ∈ ruleIx → (1 ≤ size ∧ size ≤ 6) → Q dN (gu G0 r (CMo K (newC rule size))))
abbrev N_Cache_holds : List Str := ["self"]
abbrev ps_Cache_holds : List Str := ["self"]
@[simp] theorem st_Cache_holds (x0 : D) : startD N_Cache_holds [x0] = [some x0] := rfl
def t_Cache_holds (K : PySem.W.Frag) (WD : XDW) : TDS := (dGhost K (dRet (dBi dTuple (dCons (dBi dSortL (dCons (dCall (dsp_pages_of K) WD (dCons (dFld (He.ga K "Cache") "state" (dVar 0)) dNil)) dNil)) dNil))))
abbrev N_Cache_order : List Str := ["self"]
abbrev ps_Cache_order : List Str := ["self"]
@[simp] theorem st_Cache_order (x0 : D) : startD N_Cache_order [x0] = [some x0] := rfl
def t_Cache_order (K : PySem.W.Frag) (WD : XDW) : TDS := (dGhost K (dRet (dBi dTuple (dCons (dCall (dsp_pages_of K) WD (dCons (dFld (He.ga K "Cache") "state" (dVar 0)) dNil)) dNil))))
abbrev N_Cache_counts : List Str := ["self"]
abbrev ps_Cache_counts : List Str := ["self"]
@[simp] theorem st_Cache_counts (x0 : D) : startD N_Cache_counts [x0] = [some x0] := rfl
def t_Cache_counts (K : PySem.W.Frag) (WD : XDW) : TDS := (dGhost K (dRet (dTup (dCons (dFld (He.ga K "Cache") "asks" (dVar 0)) (dCons (dFld (He.ga K "Cache") "misses" (dVar 0)) dNil)))))
abbrev N_Cache_pins : List Str := ["self"]
abbrev ps_Cache_pins : List Str := ["self"]
@[simp] theorem st_Cache_pins (x0 : D) : startD N_Cache_pins [x0] = [some x0] := rfl
def t_Cache_pins (K : PySem.W.Frag) (WD : XDW) : TDS := (dGhost K (dRet (dBi dSortDI (dCons (dFld (He.ga K "Cache") "kept" (dVar 0)) dNil))))
abbrev N_Cache_marks : List Str := ["self"]
abbrev ps_Cache_marks : List Str := ["self"]
@[simp] theorem st_Cache_marks (x0 : D) : startD N_Cache_marks [x0] = [some x0] := rfl
def t_Cache_marks (K : PySem.W.Frag) (WD : XDW) : TDS := (dGhost K (dRet (dBi dSortDS (dCons (dFld (He.ga K "Cache") "points" (dVar 0)) dNil))))
abbrev N_Cache_init : List Str := ["self", "rule", "size"]
abbrev ps_Cache_init : List Str := ["self", "rule", "size"]
@[simp] theorem st_Cache_init (x0 x1 x2 : D) : startD N_Cache_init [x0, x1, x2] = [some x0, some x1, some x2] := rfl
def t_Cache_init_1 (K : PySem.W.Frag) (WD : XDW) : TDS := (dAsg dDictN (gF (He.ga K "Cache") "points" (dVar 0)))
def t_Cache_init_2 (K : PySem.W.Frag) (WD : XDW) : TDS := (dSeq (dAsg (dC (dI 0)) (gF (He.ga K "Cache") "misses" (dVar 0)))
  (t_Cache_init_1 K WD))
def t_Cache_init_3 (K : PySem.W.Frag) (WD : XDW) : TDS := (dSeq (dAsg (dC (dI 0)) (gF (He.ga K "Cache") "asks" (dVar 0)))
  (t_Cache_init_2 K WD))
def t_Cache_init_4 (K : PySem.W.Frag) (WD : XDW) : TDS := (dSeq (dAsg dDictN (gF (He.ga K "Cache") "kept" (dVar 0)))
  (t_Cache_init_3 K WD))
def t_Cache_init_5 (K : PySem.W.Frag) (WD : XDW) : TDS := (dSeq (dAsg (dCall (dsp_started K) WD dNil) (gF (He.ga K "Cache") "state" (dVar 0)))
  (t_Cache_init_4 K WD))
def t_Cache_init_6 (K : PySem.W.Frag) (WD : XDW) : TDS := (dSeq (dAsg (dVar 2) (gF (He.ga K "Cache") "size" (dVar 0)))
  (t_Cache_init_5 K WD))
def t_Cache_init_7 (K : PySem.W.Frag) (WD : XDW) : TDS := (dSeq (dAsg (dVar 1) (gF (He.ga K "Cache") "rule" (dVar 0)))
  (t_Cache_init_6 K WD))
def t_Cache_init_8 (K : PySem.W.Frag) (WD : XDW) : TDS := (dSeq (dDrop (dCall (dsp_need_size K) WD (dCons (dVar 2) dNil)))
  (t_Cache_init_7 K WD))
def t_Cache_init (K : PySem.W.Frag) (WD : XDW) : TDS := (dSeq (dDrop (dCall (dsp_need_rule K) WD (dCons (dVar 1) dNil)))
  (t_Cache_init_8 K WD))
section
variable {K : PySem.W.Frag} {ds : List D} {G : GH} {QD : DK} {ED : XD}
theorem len_Cache_holds {Q : DK} {E : XD} (h : dsp_Cache_holds K ds G Q E) : ds.length = ps_Cache_holds.length := by
  obtain ⟨_, _, rfl, _⟩ := h; rfl
theorem len_Cache_order {Q : DK} {E : XD} (h : dsp_Cache_order K ds G Q E) : ds.length = ps_Cache_order.length := by
  obtain ⟨_, _, rfl, _⟩ := h; rfl
theorem len_Cache_counts {Q : DK} {E : XD} (h : dsp_Cache_counts K ds G Q E) : ds.length = ps_Cache_counts.length := by
  obtain ⟨_, _, rfl, _⟩ := h; rfl
theorem len_Cache_pins {Q : DK} {E : XD} (h : dsp_Cache_pins K ds G Q E) : ds.length = ps_Cache_pins.length := by
  obtain ⟨_, _, rfl, _⟩ := h; rfl
theorem len_Cache_marks {Q : DK} {E : XD} (h : dsp_Cache_marks K ds G Q E) : ds.length = ps_Cache_marks.length := by
  obtain ⟨_, _, rfl, _⟩ := h; rfl
theorem len_Cache_init {Q : DK} {E : XD} (h : dsp_Cache_init K ds G Q E) : ds.length = ps_Cache_init.length := by
  obtain ⟨_, _, _, _, _, rfl, _⟩ := h; rfl
theorem back_c {G1 : GH} {r dx k t : Addr} {pa : List Addr} {c : CM} (hr : G r = some (CMo K c)) (o : Own G r k t pa) (hl : pa.length = c.pts.length) (h : Le (GC K G r dx k t pa c) G1) : Ent K G1 G := by
  have := close_c o hl h
  rw [gu_id hr] at this
  exact this
/-- a new object beside a closed cache -/
theorem back_new {r dx k t p : Addr} {pa : List Addr} {c : CM} {m : MO} {G1 : GH} (hr : G r = some (CMo K c)) (o : Own G r k t pa) (hl : pa.length = c.pts.length) (hp : p ≠ r ∧ p ∉ k :: t :: pa ∧ G p = none) (h : Le (gu (GC K G r dx k t pa c) p m) G1) : Ent K G1 (gu G p m) := by
  obtain ⟨h1, h2, h3⟩ := hp
  rw [GC_gu o hl h1 h2] at h
  exact back_c (G := gu G p m) (by rw [gu_ne (Ne.symm h1)]; exact hr) (o.more h2) hl h
theorem ints_all (ps : List Int) : PyData.canLayAll0 (pys (ps.map dI)) = true ∧ PyData.depthAll (pys (ps.map dI)) = 0 ∧ plains (ps.map dI) = true := by
  induction ps with
  | nil => simp [pys, PyData.canLayAll0, PyData.depthAll, plains]
  | cons x xs ih =>
    obtain ⟨h1, h2, h3⟩ := ih
    simp only [List.map_cons, pys, py, PyData.canLayAll0, PyData.canLay0, PyData.depthAll, PyData.depth, plains, Dl.plain, flatV, h1, h2, h3]
    simp
theorem sort_ints {a : Addr} {ps : List Int} {Q : DK} (h : G a = some (.lst (ps.map dI))) (q : ∀ p, G p = none → Q (dR p) (gu G p (.lst ((sortI ps).map dI)))) : dSortL [dR a] G Q := by
  refine ⟨_, h, (ints_all ps).2.2, ?_, ?_, ?_, ?_⟩
  · rw [pys_map, List.map_map]
    exact PySem.W.AllAlike.of fun _ _ => by simp [py, PySem.W.alike]
  · rw [pys_map, List.map_map]
    exact PySem.W.Sortable.others fun _ => ⟨by simp [py], by simp [py]⟩
  · intro d hd
    obtain ⟨i, _, rfl⟩ := List.mem_map.mp hd
    simp [py, PyData.depth]
  · rw [sort_dI]; exact q
theorem pure_Cache_order (h : dsp_Cache_order K ds G QD ED) : t_Cache_order K (excD K ED) (retD K QD) (startD N_Cache_order ds) G := by
  obtain ⟨r, c, rfl, hr, wf, hQ⟩ := h
  unfold t_Cache_order
  refine ghost_c hr fun dx k t pa hl o => ?_
  simp
  refine d_fld rfl (o.r_at hl) (look_state ..) ⟨c.st, rfl, by have := wf.now.len; omega, fun q hq => ?_⟩
  refine ⟨_, gu_same, G, back_c hr o hl (Le.new hq), ?_⟩
  rw [pages_lst]
  exact hQ
theorem pure_Cache_holds (h : dsp_Cache_holds K ds G QD ED) : t_Cache_holds K (excD K ED) (retD K QD) (startD N_Cache_holds ds) G := by
  obtain ⟨r, c, rfl, hr, wf, hQ⟩ := h
  unfold t_Cache_holds
  refine ghost_c hr fun dx k t pa hl o => ?_
  simp
  refine d_fld rfl (o.r_at hl) (look_state ..) ⟨c.st, rfl, by have := wf.now.len; omega, fun q hq => ?_⟩
  refine sort_ints (ps := pagesS c.st) (by rw [gu_same, pages_lst]) fun q2 hq2 => ?_
  exact ⟨_, gu_same, G, back_c hr o hl ((Le.new hq).trans (Le.new hq2)), hQ⟩
theorem pure_Cache_counts (h : dsp_Cache_counts K ds G QD ED) : t_Cache_counts K (excD K ED) (retD K QD) (startD N_Cache_counts ds) G := by
  obtain ⟨r, c, rfl, hr, wf, hQ⟩ := h
  unfold t_Cache_counts
  refine ghost_c hr fun dx k t pa hl o => ?_
  simp
  refine d_fld rfl (o.r_at hl) (look_asks ..) (d_fld rfl (o.r_at hl) (look_misses ..) ⟨G, back_c hr o hl (Le.refl _), hQ⟩)
theorem pure_Cache_pins (h : dsp_Cache_pins K ds G QD ED) : t_Cache_pins K (excD K ED) (retD K QD) (startD N_Cache_pins ds) G := by
  obtain ⟨r, c, rfl, hr, wf, hQ⟩ := h
  unfold t_Cache_pins
  refine ghost_c hr fun dx k t pa hl o => ?_
  simp
  refine d_fld rfl (o.r_at hl) (look_kept ..) ⟨_, c.kept, o.k_at hl, keys_keptD _, by have := wf.now.kl; omega, fun ys q hp hs hq => ?_⟩
  obtain ⟨q1, q2, q3⟩ := o.fresh hl hq
  rw [sortI_uniq hp hs]
  exact ⟨_, back_new hr o hl ⟨q1, q2, q3⟩ (Le.refl _), hQ q q3 q1⟩
theorem keys_ptsD : ∀ (pa : List Addr) (ps : List (Str × Snap)), pa.length = ps.length → (ptsD pa ps).map (·.1) = (ps.map (·.1)).map Sum.inr
  | [], [], _ => rfl
  | [], _ :: _, h => by simp at h
  | _ :: _, [], h => by simp at h
  | a :: pa, p :: ps, h => by
    show Sum.inr p.1 :: (ptsD pa ps).map (·.1) = _
    rw [keys_ptsD pa ps (by simpa using h)]
    rfl
theorem pure_Cache_marks (h : dsp_Cache_marks K ds G QD ED) : t_Cache_marks K (excD K ED) (retD K QD) (startD N_Cache_marks ds) G := by
  obtain ⟨r, c, rfl, hr, wf, h64, hQ⟩ := h
  unfold t_Cache_marks
  refine ghost_c hr fun dx k t pa hl o => ?_
  simp
  refine d_fld rfl (o.r_at hl) (look_points ..) ⟨_, c.pts.map (·.1), o.t_at hl, keys_ptsD _ _ hl, by simpa using h64, fun ys q hp hs hq => ?_⟩
  obtain ⟨q1, q2, q3⟩ := o.fresh hl hq
  exact ⟨_, back_new hr o hl ⟨q1, q2, q3⟩ (Le.refl _), hQ ys q hp hs q3 q1⟩
theorem pure_Cache_init (h : dsp_Cache_init K ds G QD ED) : t_Cache_init K (excD K ED) (retD K QD) (startD N_Cache_init ds) G := by
  obtain ⟨r, dx, G0, rule, size, rfl, hr, rfl, h1, h2, h3⟩ := h
  simp [t_Cache_init]
  refine ⟨rule, rfl, fun hin => ?_, fun hout => exc_same (h1 hout)⟩
  simp [t_Cache_init_8]
  refine ⟨size, rfl, fun hs => ?_, fun hs => exc_same (h2 hin hs)⟩
  have h3 := h3 hin hs
  simp [t_Cache_init_7]
  refine g_fld rfl gu_same (by simp) ?_
  simp [t_Cache_init_6]
  refine g_fld rfl gu_same (by simp [putS]) ?_
  simp [t_Cache_init_5]
  refine ⟨rfl, ?_⟩
  refine g_fld rfl gu_same (by simp [putS]) ?_
  simp [t_Cache_init_4]
  intro k hk
  have kr := (gu_none hk).1
  have k0 := (gu_none hk).2
  refine g_fld (a := r) rfl (by rw [gu_ne (Ne.symm kr), gu_same]) (by simp [putS]) ?_
  simp [t_Cache_init_3]
  refine g_fld rfl gu_same (by simp [putS]) ?_
  simp [t_Cache_init_2]
  refine g_fld rfl gu_same (by simp [putS]) ?_
  simp [t_Cache_init_1]
  intro t ht
  have tr := (gu_none ht).1
  have t1 := (gu_none (gu_none ht).2)
  have t2 := gu_none t1.2
  refine g_fld (a := r) rfl (by rw [gu_ne (Ne.symm tr), gu_same]) (by simp [putS]) ?_
  refine ⟨_, close_c (c := newC rule size) (G := G0) (r := r) (dx := dx) (k := k) (t := t) (pa := []) ⟨by simp [Ne.symm t1.1], fun a ha => ?_⟩ rfl ?_, h3⟩
  · simp at ha
    rcases ha with rfl | rfl
    · exact ⟨k0, kr⟩
    · exact ⟨t2.2, tr⟩
  · intro b m e
    unfold GC at e
    simp only [gus, snapL, List.zipWith_nil_left, List.zipWith_nil_right, newC] at e
    by_cases hb : b = r
    · subst hb
      rw [gu_ne (Ne.symm kr), gu_ne (Ne.symm tr), gu_same] at e
      rw [gu_same, ← e]
      rfl
    · rw [gu_ne hb]
      by_cases hbt : b = t
      · subst hbt
        rw [gu_ne t1.1, gu_same] at e
        rw [gu_same, ← e]
        rfl
      · rw [gu_ne hbt, gu_ne hb]
        by_cases hbk : b = k
        · subst hbk
          rw [gu_same] at e
          rw [gu_same, ← e]
          rfl
        · rw [gu_ne hbk, gu_ne hbt, gu_ne hb] at e
          rw [gu_ne hbk, gu_ne hb]
          exact e
end
end Cb

set_option Elab.async false
set_option linter.all false
set_option maxRecDepth 100000
set_option maxHeartbeats 4000000
/-! What the program's defs compute: marks, sizes. -/
namespace Cb
open PySem PySem.Spec PyProof.Rows L2 Dl
def letters : Str := "abcdefghijklmnopqrstuvwxyz"
def nameOk (z : Str) : Bool := decide (1 ≤ z.length) && (decide (z.length ≤ 8) && z.cps.toList.all fun c => decide (c ∈ letters.cps.toList))
def CM.now (c : CM) : Snap := ⟨c.size, c.st, c.kept, c.asks, c.misses⟩
def putPt (ps : List (Str × Snap)) (z : Str) (s : Snap) : List (Str × Snap) := if (ps.any fun x => decide (x.1 = z)) = true then ps.map fun x => if x.1 = z then (x.1, s) else x else ps ++ [(z, s)]
def putA (pa : List Addr) (ps : List (Str × Snap)) (z : Str) (p : Addr) : List Addr := if (ps.any fun x => decide (x.1 = z)) = true then List.zipWith (fun a x => if x.1 = z then p else a) pa ps else pa ++ [p]
def markC (c : CM) (z : Str) : CM := { c with pts := putPt c.pts z c.now }
def goC (c : CM) (z : Str) : Option CM := (c.pts.find? fun x => decide (x.1 = z)).map fun x => { c with size := x.2.size, st := x.2.st, kept := x.2.kept, asks := x.2.asks, misses := x.2.misses }
def dsp_Cache_mark (K : PySem.W.Frag) : DSp := fun ds G Q E => ∃ r c d kd, ds = [dR r, d] ∧ kiD d G = some kd ∧ kd ≠ .lst ∧ kd ≠ .dct ∧ G r = some (CMo K c) ∧ WFc c ∧ c.pts.length < 1000 ∧ (c.pts.map (·.1)).Nodup ∧ (∀ z, d = dS z → z.length ≤ 1000) ∧
  ((kd ≠ .str ∨ ∃ z, d = dS z ∧ nameOk z = false) → E (He.ga K "BadName") [] G) ∧ ∀ z, d = dS z → nameOk z = true → Q dN (gu G r (CMo K (markC c z)))
def dsp_Cache_go (K : PySem.W.Frag) : DSp := fun ds G Q E => ∃ r c d kd, ds = [dR r, d] ∧ kiD d G = some kd ∧ kd ≠ .lst ∧ kd ≠ .dct ∧ G r = some (CMo K c) ∧ WFc c ∧ (kd ≠ .str → E (He.ga K "NoPoint") [] G) ∧
  ∀ z, d = dS z → match goC c z with
    | none => E (He.ga K "NoPoint") [] G
    | some c' => Q dN (gu G r (CMo K c'))
def resLoop (rule : Str) (kept : List Int) (size : Int) : Nat → Sta → List Int → Option (Sta × List Int)
  | 0, s, f => some (s, f)
  | n + 1, s, f => if size < (s.1.length : Int) then match loserF rule s kept with
      | none => none
      | some (i, s') => resLoop rule kept size n (withoutF s' i) (f ++ [(rwA s'.1 i).1])
    else some (s, f)
def resizeC (c : CM) (size : Int) : Option (CM × List Int) := (resLoop c.rule c.kept size c.st.1.length c.st []).map fun x => ({ c with st := x.1, size := size }, x.2)
def dsp_Cache_resize (K : PySem.W.Frag) : DSp := fun ds G Q E => ∃ r c i, ds = [dR r, dI i] ∧ G r = some (CMo K c) ∧ WFc c ∧ (¬ (1 ≤ i ∧ i ≤ 6) → E (He.ga K "BadSize") [] G) ∧
  ((1 ≤ i ∧ i ≤ 6) → match resizeC c i with
    | none => E (He.ga K "NoRoom") [] G
    | some (c', f) => ∀ q, G q = none → q ≠ r → Q (dR q) (gu (gu G r (CMo K c')) q (.lst (f.map dI))))
abbrev N_Cache_mark : List Str := ["self", "name", "sign"]
abbrev ps_Cache_mark : List Str := ["self", "name"]
@[simp] theorem st_Cache_mark (x0 x1 : D) : startD N_Cache_mark [x0, x1] = [some x0, some x1, none] := rfl
def t_Cache_mark (K : PySem.W.Frag) (WD : XDW) : TDS := (dGhost K (dSeq (dIfS (dOr (dNot (dTest (dIsi [.str] (dVar 1)))) (dOr (dNot (dTest (dChain (dI0 fun i j => .bl (decide (i ≤ j))) (dI0 fun i j => .bl (decide (i ≤ j))) (dC (dI 1)) (dBi dLen (dCons (dVar 1) dNil)) (dC (dI 8))))) (dNot (dTest (dBi (dAllF fun bs => bs.all id) (dCons (dLc K (iStrD (dVar 1)) (gN 2) dYes (dOp dIn (dVar 2) (dC (dS "abcdefghijklmnopqrstuvwxyz"))) [2]) dNil)))))) (dRaise WD (He.ga K "BadName") []) dNext)
  (dAsg (dTup (dCons (dFld (He.ga K "Cache") "size" (dVar 0)) (dCons (dFld (He.ga K "Cache") "state" (dVar 0)) (dCons (dBi dDict (dCons (dFld (He.ga K "Cache") "kept" (dVar 0)) dNil)) (dCons (dFld (He.ga K "Cache") "asks" (dVar 0)) (dCons (dFld (He.ga K "Cache") "misses" (dVar 0)) dNil)))))) (gS (dFld (He.ga K "Cache") "points" (dVar 0)) (dVar 1)))))
abbrev N_Cache_go : List Str := ["self", "name", "kept"]
abbrev ps_Cache_go : List Str := ["self", "name"]
@[simp] theorem st_Cache_go (x0 x1 : D) : startD N_Cache_go [x0, x1] = [some x0, some x1, none] := rfl
def t_Cache_go (K : PySem.W.Frag) (WD : XDW) : TDS := (dGhost K (dSeq (dIfS (dOr (dNot (dTest (dIsi [.str] (dVar 1)))) (dTest (dOp dNotin (dVar 1) (dFld (He.ga K "Cache") "points" (dVar 0))))) (dRaise WD (He.ga K "NoPoint") []) dNext)
  (dSeq (dAsg (dOp dGetD (dFld (He.ga K "Cache") "points" (dVar 0)) (dVar 1)) (gT 5 (gC (gF (He.ga K "Cache") "size" (dVar 0)) (gC (gF (He.ga K "Cache") "state" (dVar 0)) (gC (gN 2) (gC (gF (He.ga K "Cache") "asks" (dVar 0)) (gC (gF (He.ga K "Cache") "misses" (dVar 0)) gE)))))))
  (dAsg (dBi dDict (dCons (dVar 2) dNil)) (gF (He.ga K "Cache") "kept" (dVar 0))))))
abbrev N_Cache_resize : List Str := ["self", "size", "state", "found", "told", "place", "rows", "hand"]
abbrev ps_Cache_resize : List Str := ["self", "size"]
@[simp] theorem st_Cache_resize (x0 x1 : D) : startD N_Cache_resize [x0, x1] = [some x0, some x1, none, none, none, none, none, none] := rfl
def t_Cache_resize_1 (K : PySem.W.Frag) (WD : XDW) : TDS := (dAsg (dCall (dsp_without K) WD (dCons (dTup (dCons (dVar 6) (dCons (dVar 7) dNil))) (dCons (dVar 5) dNil))) (gN 2))
def t_Cache_resize_2 (K : PySem.W.Frag) (WD : XDW) : TDS := (dSeq (dDrop (dBm "list" dAppend (dVar 3) (dCons (dOp dIx (dOp dIx (dVar 6) (dVar 5)) (dC (dI 0))) dNil)))
  (t_Cache_resize_1 K WD))
def t_Cache_resize_3 (K : PySem.W.Frag) (WD : XDW) : TDS := (dSeq (dAsg (dVar 4) (gT 3 (gC (gN 5) (gC (gN 6) (gC (gN 7) gE)))))
  (t_Cache_resize_2 K WD))
def t_Cache_resize_4 (K : PySem.W.Frag) (WD : XDW) : TDS := (dSeq (dIfS (dTest (dOp dIs (dVar 4) (dC dN))) (dRaise WD (He.ga K "NoRoom") []) dNext)
  (t_Cache_resize_3 K WD))
def t_Cache_resize_5 (K : PySem.W.Frag) (WD : XDW) : TDS := (dRet (dVar 3))
def t_Cache_resize_6 (K : PySem.W.Frag) (WD : XDW) : TDS := (dSeq (dAsg (dVar 1) (gF (He.ga K "Cache") "size" (dVar 0)))
  (t_Cache_resize_5 K WD))
def t_Cache_resize_7 (K : PySem.W.Frag) (WD : XDW) : TDS := (dSeq (dAsg (dVar 2) (gF (He.ga K "Cache") "state" (dVar 0)))
  (t_Cache_resize_6 K WD))
def t_Cache_resize_8 (K : PySem.W.Frag) (WD : XDW) : TDS := (dSeq (dWhile K (dTest (dOp (dI0 fun i j => .bl (decide (j < i))) (dBi dLen (dCons (dOp dIx (dVar 2) (dC (dI 0))) dNil)) (dVar 1))) (dSeq (dAsg (dCall (dsp_loser K) WD (dCons (dFld (He.ga K "Cache") "rule" (dVar 0)) (dCons (dVar 2) (dCons (dFld (He.ga K "Cache") "kept" (dVar 0)) dNil)))) (gN 4))
  (t_Cache_resize_4 K WD)))
  (t_Cache_resize_7 K WD))
def t_Cache_resize_9 (K : PySem.W.Frag) (WD : XDW) : TDS := (dSeq (dPar 2 3 (dCons (dFld (He.ga K "Cache") "state" (dVar 0)) (dCons (dLst dNil) dNil)))
  (t_Cache_resize_8 K WD))
def t_Cache_resize (K : PySem.W.Frag) (WD : XDW) : TDS := (dGhost K (dSeq (dDrop (dCall (dsp_need_size K) WD (dCons (dVar 1) dNil)))
  (t_Cache_resize_9 K WD)))
section
variable {K : PySem.W.Frag} {ds : List D} {G : GH} {QD : DK} {ED : XD}
theorem len_Cache_mark {Q : DK} {E : XD} (h : dsp_Cache_mark K ds G Q E) : ds.length = ps_Cache_mark.length := by
  obtain ⟨_, _, _, _, rfl, _⟩ := h; rfl
theorem len_Cache_go {Q : DK} {E : XD} (h : dsp_Cache_go K ds G Q E) : ds.length = ps_Cache_go.length := by
  obtain ⟨_, _, _, _, rfl, _⟩ := h; rfl
theorem len_Cache_resize {Q : DK} {E : XD} (h : dsp_Cache_resize K ds G Q E) : ds.length = ps_Cache_resize.length := by
  obtain ⟨_, _, _, rfl, _⟩ := h; rfl
theorem any_ptsD (z : Str) : ∀ (pa : List Addr) (ps : List (Str × Snap)), pa.length = ps.length → (ptsD pa ps).any (fun kv => decide (kv.1 = Sum.inr z)) = ps.any fun x => decide (x.1 = z)
  | [], [], _ => rfl
  | [], _ :: _, h => by simp at h
  | _ :: _, [], h => by simp at h
  | a :: pa, p :: ps, h => by
    have ih := any_ptsD z pa ps (by simpa using h)
    show (decide ((Sum.inr p.1 : Key) = Sum.inr z) || (ptsD pa ps).any _) = _
    rw [ih, List.any_cons]
    congr 1
    simp
theorem put_ptsD (z : Str) (p : Addr) (s : Snap) (pa : List Addr) (ps : List (Str × Snap)) (h : pa.length = ps.length) : putD (ptsD pa ps) (Sum.inr z) (snapD p s) = ptsD (putA pa ps z p) (putPt ps z s) := by
  unfold putD putA putPt
  rw [any_ptsD z pa ps h]
  by_cases e : (ps.any fun x => decide (x.1 = z)) = true
  · rw [if_pos e, if_pos e, if_pos e]
    clear e
    induction pa generalizing ps with
    | nil => rfl
    | cons a pa ih =>
      cases ps with
      | nil => rfl
      | cons q ps =>
        have ih := ih ps (by simpa using h)
        have e1 : ptsD (a :: pa) (q :: ps) = (Sum.inr q.1, snapD a q.2) :: ptsD pa ps := rfl
        rw [e1, List.map_cons, ih]
        by_cases hq : q.1 = z
        · subst hq
          simp [ptsD]
        · have hq' : ¬ (Sum.inr q.1 : Key) = Sum.inr z := by simpa using hq
          simp [ptsD, hq]
  · rw [if_neg e, if_neg e, if_neg e]
    clear e
    induction pa generalizing ps with
    | nil =>
      cases ps with
      | nil => rfl
      | cons q ps => simp at h
    | cons a pa ih =>
      cases ps with
      | nil => simp at h
      | cons q ps =>
        have ih := ih ps (by simpa using h)
        show _ :: (ptsD pa ps ++ _) = _ :: ptsD (pa ++ [p]) (ps ++ [(z, s)])
        rw [ih]
theorem putA_len (z : Str) (p : Addr) (s : Snap) (pa : List Addr) (ps : List (Str × Snap)) (h : pa.length = ps.length) : (putA pa ps z p).length = (putPt ps z s).length := by
  unfold putA putPt
  split
  · simp [h]
  · simp [h]
theorem putA_mem {z : Str} {p a : Addr} {pa : List Addr} {ps : List (Str × Snap)} (h : a ∈ putA pa ps z p) : a = p ∨ a ∈ pa := by
  unfold putA at h
  split at h
  · obtain ⟨i, hi, e⟩ := List.mem_iff_getElem.mp h
    rw [List.getElem_zipWith] at e
    split at e
    · exact .inl e.symm
    · exact .inr (e ▸ List.getElem_mem _)
  · rcases List.mem_append.mp h with h | h
    · exact .inr h
    · exact .inl (by simpa using h)
theorem putA_nd {z : Str} {p : Addr} : ∀ {pa : List Addr} {ps : List (Str × Snap)}, pa.length = ps.length → (ps.map (·.1)).Nodup → pa.Nodup → p ∉ pa → (putA pa ps z p).Nodup := by
  intro pa ps h hn hp hm
  unfold putA
  split
  · rename_i e
    clear e
    induction pa generalizing ps with
    | nil => simp
    | cons a pa ih =>
      cases ps with
      | nil => simp
      | cons q ps =>
        rw [List.map_cons, List.nodup_cons] at hn
        rw [List.nodup_cons] at hp
        rw [List.mem_cons, not_or] at hm
        have ih := ih (ps := ps) (by simpa using h) hn.2 hp.2 hm.2
        rw [List.zipWith_cons_cons, List.nodup_cons]
        refine ⟨fun hc => ?_, ih⟩
        obtain ⟨i, hi, e⟩ := List.mem_iff_getElem.mp hc
        rw [List.getElem_zipWith] at e
        have hi2 : i < ps.length := by rw [List.length_zipWith] at hi; omega
        have hi1 : i < pa.length := by rw [List.length_zipWith] at hi; omega
        by_cases hq : q.1 = z
        · rw [if_pos hq] at e
          split at e
          · rename_i hz
            exact hn.1 (by rw [hq, ← hz]; exact List.mem_map.mpr ⟨_, List.getElem_mem hi2, rfl⟩)
          · exact hm.2 (e ▸ List.getElem_mem hi1)
        · rw [if_neg hq] at e
          split at e
          · exact hm.1 e
          · exact hp.1 (e ▸ List.getElem_mem hi1)
  · rw [List.nodup_append]
    exact ⟨hp, by simp, fun x hx y hy => by
      have hy : y = p := by simpa using hy
      subst hy
      rintro rfl
      exact hm hx⟩
theorem snapL_put {z : Str} {p b : Addr} {s : Snap} {m : MO} : ∀ {pa : List Addr} {ps : List (Str × Snap)}, pa.length = ps.length → (b, m) ∈ snapL (putA pa ps z p) (putPt ps z s) → (b = p ∧ m = .dct (keptD s.kept)) ∨ (b, m) ∈ snapL pa ps := by
  intro pa ps h hm
  unfold putA putPt at hm
  split at hm
  · rename_i e
    clear e
    induction pa generalizing ps with
    | nil => simp [snapL] at hm
    | cons a pa ih =>
      cases ps with
      | nil => simp [snapL] at hm
      | cons q ps =>
        have ih := ih (ps := ps) (by simpa using h)
        rw [List.zipWith_cons_cons, List.map_cons] at hm
        unfold snapL at hm
        rw [List.zipWith_cons_cons] at hm
        rcases List.mem_cons.mp hm with hm | hm
        · by_cases hq : q.1 = z
          · rw [if_pos hq, if_pos hq] at hm
            cases hm
            exact .inl ⟨rfl, rfl⟩
          · rw [if_neg hq, if_neg hq] at hm
            cases hm
            right
            unfold snapL
            rw [List.zipWith_cons_cons]
            exact List.mem_cons_self
        · rcases ih hm with h | h
          · exact .inl h
          · right
            unfold snapL
            rw [List.zipWith_cons_cons]
            exact List.mem_cons_of_mem _ h
  · unfold snapL at hm ⊢
    rw [List.zipWith_append h] at hm
    rcases List.mem_append.mp hm with hm | hm
    · exact .inr hm
    · simp at hm
      exact .inl ⟨hm.1, hm.2⟩
theorem find_pts {z : Str} : ∀ {pa : List Addr} {ps : List (Str × Snap)}, pa.length = ps.length → match ps.find? (fun x => decide (x.1 = z)) with
    | none => valD (ptsD pa ps) (Sum.inr z) = none
    | some x => ∃ a, valD (ptsD pa ps) (Sum.inr z) = some (snapD a x.2) ∧ (a, MO.dct (keptD x.2.kept)) ∈ snapL pa ps
  | [], [], _ => rfl
  | [], _ :: _, h => by simp at h
  | _ :: _, [], h => by simp at h
  | a :: pa, p :: ps, h => by
    have ih := find_pts (z := z) (pa := pa) (ps := ps) (by simpa using h)
    have e1 : ptsD (a :: pa) (p :: ps) = (Sum.inr p.1, snapD a p.2) :: ptsD pa ps := rfl
    have e2 : snapL (a :: pa) (p :: ps) = (a, MO.dct (keptD p.2.kept)) :: snapL pa ps := rfl
    rw [e1, e2]
    by_cases hq : p.1 = z
    · rw [List.find?_cons_of_pos (by simpa using hq)]
      refine ⟨a, ?_, List.mem_cons_self⟩
      unfold valD
      rw [List.find?_cons_of_pos (by simpa using hq)]
      rfl
    · have hv : valD ((Sum.inr p.1, snapD a p.2) :: ptsD pa ps) (Sum.inr z) = valD (ptsD pa ps) (Sum.inr z) := by
        unfold valD
        rw [List.find?_cons_of_neg (by simpa using hq)]
      rw [List.find?_cons_of_neg (by simpa using hq), hv]
      split at ih
      · exact ih
      · obtain ⟨b, h1, h2⟩ := ih
        exact ⟨b, h1, List.mem_cons_of_mem _ h2⟩
theorem blsD_map {α : Type} (f : α → Bool) : ∀ l : List α, blsD (l.map fun x => dB (f x)) = some (l.map f)
  | [] => rfl
  | x :: l => by
    rw [List.map_cons, blsD, blsD_map f l]
    rfl
theorem GC_le {G1 : GH} {r dx k t : Addr} {pa : List Addr} {c : CM} (hr : G1 r = some (.ins (cC K) dx (flds c k t))) (hk : G1 k = some (.dct (keptD c.kept))) (ht : G1 t = some (.dct (ptsD pa c.pts))) (hs : ∀ a m, (a, m) ∈ snapL pa c.pts → G1 a = some m)
    (ho : ∀ b m, b ≠ r → G b = some m → G1 b = some m) : Le (GC K G r dx k t pa c) G1 := by
  intro b m e
  unfold GC at e
  rcases gus_of e with h | ⟨h, e⟩
  · rcases List.mem_cons.mp h with h | h
    · cases h; exact hk
    · rcases List.mem_cons.mp h with h | h
      · cases h; exact ht
      · exact hs b m h
  · by_cases q : b = r
    · subst q; rw [gu_same] at e; rw [hr, ← e]
    · rw [gu_ne q] at e; exact ho b m q e
theorem pure_Cache_mark (h : dsp_Cache_mark K ds G QD ED) : t_Cache_mark K (excD K ED) (retD K QD) (startD N_Cache_mark ds) G := by
  obtain ⟨r, c, d, kd, rfl, hk, k1, k2, hr, wf, hpl, hnd, hz, hbad, hok⟩ := h
  unfold t_Cache_mark
  refine ghost_c hr fun dx k t pa hl o => ?_
  have back : ∀ G1, Le (GC K G r dx k t pa c) G1 → Ent K G1 G := fun G1 h => back_c hr o hl h
  have hk' := kiD_le (G1 := GC K G r dx k t pa c) hk k1 k2
  by_cases hs : kd = .str
  · subst hs
    have hd : ∃ z, d = dS z := by
      unfold kiD at hk
      split at hk <;> first | (cases hk; done) | exact ⟨_, rfl⟩ | skip
      rename_i a
      unfold kiMO at hk
      split at hk <;> cases hk
    obtain ⟨z, rfl⟩ := hd
    have hz := hz z rfl
    simp [kiD, Ki.is]
    have comp : ∀ Q : DK, (∀ p, GC K G r dx k t pa c p = none → Q (dR p) (gu (GC K G r dx k t pa c) p (.lst (z.cps.toList.map fun ch => dB (decide (ch ∈ letters.cps.toList)))))) →
        dLc K (iStrD (dVar 1)) (gN 2) dYes (dOp dIn (dVar 2) (dC (dS "abcdefghijklmnopqrstuvwxyz"))) [2] [some (dR r), some (dS z), none] (GC K G r dx k t pa c) Q := fun Q hQ => by
      refine dlc_pure (chD z) (fun d => match d with | .at (.str s) => dB (decide (s.cps.toList.head?.any fun ch => decide (ch ∈ letters.cps.toList))) | d => d) (fun _ => true) (fun R h => ?_) ?_ ?_ ?_
      · simp
        exact h _ fun _ _ _ => trivial
      · have e : (chD z).length = z.length := by
          unfold chD
          rw [List.length_map]
          rfl
        rw [e, zL_val]
        omega
      · intro p hp x hx acc Qt Qf h1 h2
        obtain ⟨ch, _, rfl⟩ := List.mem_map.mp (show x ∈ z.cps.toList.map fun c => dS ⟨#[c]⟩ from hx)
        simp
        simpa [letters] using h1
      · intro p hp
        have e : ((chD z).filter (fun _ => true)).map (fun d => match d with | .at (.str s) => dB (decide (s.cps.toList.head?.any fun ch => decide (ch ∈ letters.cps.toList))) | d => d) = z.cps.toList.map fun ch => dB (decide (ch ∈ letters.cps.toList)) := by
          rw [filt_all]
          unfold chD
          rw [List.map_map]
          apply List.map_congr_left
          intro ch _
          simp
        rw [e]
        exact hQ p hp
    refine ⟨by show z.length ≤ 16777216; omega, fun h1 => ?_, fun h1 => ?_⟩
    · refine ⟨fun h8 => ⟨G, back _ (Le.refl _), hbad (.inr ⟨z, rfl, ?_⟩)⟩, fun h8 => comp _ fun p hp => ?_⟩
      · have : ¬ z.length ≤ 8 := by omega
        simp [nameOk, this]
      obtain ⟨p1, p2, p3⟩ := o.fresh hl hp
      have hle : Le (GC K G r dx k t pa c) (gu (GC K G r dx k t pa c) p (.lst (z.cps.toList.map fun ch => dB (decide (ch ∈ letters.cps.toList))))) := Le.new hp
      simp only [gu_same]
      refine ⟨_, rfl, _, blsD_map _ _, fun hf => ⟨G, back _ hle, hbad (.inr ⟨z, rfl, ?_⟩)⟩, fun hf => ?_⟩
      · obtain ⟨ch, hc1, hc2⟩ := List.mem_map.mp hf
        have : (z.cps.toList.all fun ch => decide (ch ∈ letters.cps.toList)) = false := by
          rw [List.all_eq_false]
          exact ⟨ch, hc1, by simpa using hc2⟩
        unfold nameOk
        rw [this, Bool.and_false, Bool.and_false]
      · have hall : (z.cps.toList.all fun ch => decide (ch ∈ letters.cps.toList)) = true := by
          rw [List.all_eq_true]
          intro ch hc
          cases e : decide (ch ∈ letters.cps.toList) with
          | true => rfl
          | false => exact absurd (List.mem_map.mpr ⟨ch, hc, e⟩) hf
        have hok := hok z rfl (by simp only [nameOk, hall, Bool.and_true, Bool.and_eq_true, decide_eq_true_eq]; omega)
        generalize hG1 : gu (GC K G r dx k t pa c) p (.lst (z.cps.toList.map fun ch => dB (decide (ch ∈ letters.cps.toList)))) = G1 at hle ⊢
        have hr1 : G1 r = some (.ins (cC K) dx (flds c k t)) := hle _ _ (o.r_at hl)
        refine d_fld rfl hr1 (look_size ..) (d_fld rfl hr1 (look_state ..) (d_fld rfl hr1 (look_kept ..) ?_))
        refine ⟨_, hle _ _ (o.k_at hl), fun q hq => ?_⟩
        have hle2 : Le G1 (gu G1 q (.dct (keptD c.kept))) := Le.new hq
        have qn : GC K G r dx k t pa c q = none := hle.none hq
        obtain ⟨q1, q2, q3⟩ := o.fresh hl qn
        have hr2 := hle2 _ _ hr1
        refine d_fld rfl hr2 (look_asks ..) (d_fld rfl hr2 (look_misses ..) ?_)
        refine d_fld rfl hr2 (look_points ..) ⟨_, hle2 _ _ (hle _ _ (o.t_at hl)), Sum.inr z, rfl, ?_, ?_⟩
        · unfold ptsD
          rw [List.length_zipWith]
          omega
        · have e1 : D.tup [dI c.size, eSta c.st, dR q, dI c.asks, dI c.misses] = snapD q c.now := rfl
          rw [e1, put_ptsD z q c.now pa c.pts hl]
          have hl' : (putA pa c.pts z q).length = (markC c z).pts.length := putA_len z q c.now pa c.pts hl
          have nq : ∀ a ∈ k :: t :: pa, a ≠ q := fun a ha e => q2 (e ▸ ha)
          have nd := o.nd
          rw [List.nodup_cons, List.nodup_cons] at nd
          have nkt : k ≠ t := fun e => nd.1 (by rw [e]; exact List.mem_cons_self)
          have tr : t ≠ r := (o.fr t (by simp)).2
          have mem' : ∀ a ∈ putA pa c.pts z q, a = q ∨ a ∈ pa := fun a ha => putA_mem ha
          have o' : Own G r k t (putA pa c.pts z q) := by
            refine ⟨?_, fun a ha => ?_⟩
            · rw [List.nodup_cons, List.nodup_cons]
              refine ⟨fun hc => ?_, fun hc => ?_, putA_nd hl hnd nd.2.2 fun h => q2 (by simp [h])⟩
              · rcases List.mem_cons.mp hc with h | h
                · exact nkt h
                · rcases mem' _ h with h | h
                  · exact nq k (by simp) h
                  · exact nd.1 (by simp [h])
              · rcases mem' _ hc with h | h
                · exact nq t (by simp) h
                · exact nd.2.1 h
            · rcases List.mem_cons.mp ha with rfl | ha
              · exact o.fr _ (by simp)
              · rcases List.mem_cons.mp ha with rfl | ha
                · exact o.fr _ (by simp)
                · rcases mem' _ ha with rfl | h
                  · exact ⟨q3, q1⟩
                  · exact o.fr a (by simp [h])
          refine ⟨_, close_c (c := markC c z) o' hl' (GC_le (dx := dx) ?_ ?_ gu_same (fun a m hm => ?_) fun b m hb hbm => ?_), hok⟩
          · rw [gu_ne (Ne.symm tr), hr2]; rfl
          · rw [gu_ne nkt]
            exact hle2 _ _ (hle _ _ (o.k_at hl))
          · rcases snapL_put hl hm with ⟨rfl, rfl⟩ | h
            · rw [gu_ne (Ne.symm (nq t (by simp))), gu_same]
              rfl
            · have ha : a ∈ pa := by
                rw [← snapL_keys pa c.pts hl]
                exact List.mem_map.mpr ⟨_, h, rfl⟩
              rw [gu_ne (fun e : a = t => nd.2.1 (by rw [← e]; exact ha))]
              exact hle2 _ _ (hle _ _ (o.snap_at hl h))
          · rw [gu_ne (fun e => by rw [e, (o.fr t (by simp)).1] at hbm; cases hbm)]
            exact hle2 _ _ (hle _ _ (o.old hl hb hbm))
    · refine ⟨G, back _ (Le.refl _), hbad (.inr ⟨z, rfl, ?_⟩)⟩
      have : ¬ 1 ≤ z.length := by omega
      simp [nameOk, this]
  · simp [hk']
    have e : kd.is .str = false := by cases kd <;> first | rfl | exact absurd rfl hs
    simp [e]
    exact ⟨G, back _ (Le.refl _), hbad (.inl hs)⟩
theorem pure_Cache_go (h : dsp_Cache_go K ds G QD ED) : t_Cache_go K (excD K ED) (retD K QD) (startD N_Cache_go ds) G := by
  obtain ⟨r, c, d, kd, rfl, hk, k1, k2, hr, wf, hbad, hok⟩ := h
  unfold t_Cache_go
  refine ghost_c hr fun dx k t pa hl o => ?_
  have back : ∀ G1, Le (GC K G r dx k t pa c) G1 → Ent K G1 G := fun G1 h => back_c hr o hl h
  have hk' := kiD_le (G1 := GC K G r dx k t pa c) hk k1 k2
  by_cases hs : kd = .str
  · subst hs
    have hd : ∃ z, d = dS z := by
      unfold kiD at hk
      split at hk <;> first | (cases hk; done) | exact ⟨_, rfl⟩ | skip
      rename_i a
      unfold kiMO at hk
      split at hk <;> cases hk
    obtain ⟨z, rfl⟩ := hd
    have hok := hok z rfl
    have hf := find_pts (z := z) hl
    simp [kiD, Ki.is]
    refine d_fld rfl (o.r_at hl) (look_points ..) (.inr ⟨_, Sum.inr z, o.t_at hl, rfl, ?_⟩)
    unfold goC at hok
    cases hx : c.pts.find? (fun x => decide (x.1 = z)) with
    | none =>
      rw [hx] at hok hf
      have hf : valD (ptsD pa c.pts) (Sum.inr z) = none := hf
      simp [hf]
      exact ⟨G, back _ (Le.refl _), hok⟩
    | some x =>
      rw [hx] at hok hf
      obtain ⟨a, hv, hm⟩ := hf
      have hok : QD dN (gu G r (CMo K { c with size := x.2.size, st := x.2.st, kept := x.2.kept, asks := x.2.asks, misses := x.2.misses })) := hok
      have ha : a ∈ pa := by
        rw [← snapL_keys pa c.pts hl]
        exact List.mem_map.mpr ⟨_, hm, rfl⟩
      have ar : a ≠ r := (o.fr a (by simp [ha])).2
      simp [hv]
      refine d_fld rfl (o.r_at hl) (look_points ..) ⟨_, o.t_at hl, Sum.inr z, rfl, _, hv, ?_⟩
      simp [snapD]
      refine g_fld rfl (o.r_at hl) (by simp) (g_fld rfl gu_same (by simp) ?_)
      simp
      refine g_fld rfl gu_same (by simp) (g_fld rfl gu_same (by simp) ?_)
      simp
      refine ⟨_, by rw [gu_ne ar]; exact o.snap_at hl hm, fun p hp => ?_⟩
      obtain ⟨pr, pn⟩ := gu_none hp
      obtain ⟨p1, p2, p3⟩ := o.fresh hl pn
      refine g_fld (a := r) rfl (by rw [gu_ne (Ne.symm pr), gu_same]) (by simp) ?_
      have pa_ : ∀ b ∈ k :: t :: pa, b ≠ p := fun b hb e => p2 (by rw [← e]; exact hb)
      have nd := o.nd
      rw [List.nodup_cons, List.nodup_cons] at nd
      have o' : Own G r p t pa := by
        refine ⟨?_, fun b hb => ?_⟩
        · rw [List.nodup_cons, List.nodup_cons]
          refine ⟨fun hc => ?_, nd.2.1, nd.2.2⟩
          rcases List.mem_cons.mp hc with h | h
          · exact pa_ t (by simp) h.symm
          · exact pa_ p (by simp [h]) rfl
        · rcases List.mem_cons.mp hb with rfl | hb
          · exact ⟨p3, p1⟩
          · exact o.fr b (List.mem_cons_of_mem _ hb)
      refine ⟨_, close_c (c := { c with size := x.2.size, st := x.2.st, kept := x.2.kept, asks := x.2.asks, misses := x.2.misses }) o' hl (GC_le (dx := dx) ?_ ?_ ?_ (fun b m hb => ?_) fun b m hb hbm => ?_), hok⟩
      · rw [gu_same]
        simp
        rfl
      · rw [gu_ne p1, gu_same]
      · rw [gu_ne (o.fr t (by simp)).2, gu_ne (pa_ t (by simp)), gu_ne (o.fr t (by simp)).2]
        exact o.t_at hl
      · have hb2 : b ∈ pa := by
          rw [← snapL_keys pa c.pts hl]
          exact List.mem_map.mpr ⟨_, hb, rfl⟩
        have br : b ≠ r := (o.fr b (by simp [hb2])).2
        rw [gu_ne br, gu_ne (pa_ b (by simp [hb2])), gu_ne br]
        exact o.snap_at hl hb
      · rw [gu_ne hb, gu_ne (fun e => by rw [e, p3] at hbm; cases hbm), gu_ne hb]
        exact o.old hl hb hbm
  · simp [hk']
    have e : kd.is .str = false := by cases kd <;> first | rfl | exact absurd rfl hs
    simp [e]
    exact ⟨G, back _ (Le.refl _), hbad hs⟩
theorem out_len {rows : List Row} {i : Nat} (h : i < rows.length) : (outF rows i).length + 1 = rows.length := by
  unfold outF
  rw [List.length_append, List.length_take, List.length_drop]
  omega
theorem WFs.loser {rule : Str} {st s' : Sta} {kept : List Int} {size : Int} {i : Nat} (hr : rule ∈ ruleIx) (w : st.1.length ≤ 6 ∧ (st.2 = 0 ∨ (rule = "clock" ∧ st.2 < st.1.length))) (h : loserF rule st kept = some (i, s')) :
    i < s'.1.length ∧ s'.1.length = st.1.length ∧ (withoutF s' i).1.length + 1 = st.1.length ∧ ((withoutF s' i).2 = 0 ∨ (rule = "clock" ∧ (withoutF s' i).2 < (withoutF s' i).1.length)) := by
  have hh : Hand rule st := fun e => by
    rcases w.2 with h0 | ⟨_, h1⟩
    · cases e : st.1 with
      | nil => exact .inl rfl
      | cons a as => right; rw [h0]; simp
    · exact .inr h1
  obtain ⟨l1, l2, l3, l4⟩ := loserF_lt hr hh h
  have e := out_len l1
  refine ⟨l1, l2, by show (outF s'.1 i).length + 1 = _; omega, ?_⟩
  by_cases hc : rule = "clock"
  · unfold withoutF
    simp only
    generalize (if i < s'.2 then s'.2 - 1 else s'.2) = hh
    by_cases q : hh < (outF s'.1 i).length
    · rw [if_pos q]
      exact .inr ⟨hc, q⟩
    · rw [if_neg q]
      exact .inl rfl
  · left
    obtain ⟨e1, _⟩ := l3 hc
    subst e1
    have h0 : s'.2 = 0 := by
      rcases w.2 with h0 | ⟨h1, _⟩
      · exact h0
      · exact absurd h1 hc
    unfold withoutF
    rw [h0]
    simp
theorem pure_Cache_resize (h : dsp_Cache_resize K ds G QD ED) : t_Cache_resize K (excD K ED) (retD K QD) (startD N_Cache_resize ds) G := by
  obtain ⟨r, c, n, rfl, hr, wf, hbad, hok⟩ := h
  unfold t_Cache_resize
  refine ghost_c hr fun dx k t pa hl o => ?_
  have back : ∀ G1, Le (GC K G r dx k t pa c) G1 → Ent K G1 G := fun G1 h => back_c hr o hl h
  simp
  refine ⟨n, rfl, fun hn => ?_, fun hn => ⟨G, back _ (Le.refl _), hbad hn⟩⟩
  have hok := hok hn
  simp [t_Cache_resize_9]
  refine d_fld rfl (o.r_at hl) (look_state ..) ?_
  intro q hq
  obtain ⟨q1, q2, q3⟩ := o.fresh hl hq
  unfold t_Cache_resize_8
  rw [s_dSeq]
  refine ⟨fun m δ' G' => ∃ (s : Sta) (f : List Int) (x4 x5 x6 x7 : Option D), m = s.1.length ∧ δ' = [some (dR r), some (dI n), some (eSta s), some (dR q), x4, x5, x6, x7] ∧ G' = gu (GC K G r dx k t pa c) q (.lst (f.map dI)) ∧
    (s.1.length ≤ 6 ∧ (s.2 = 0 ∨ (c.rule = "clock" ∧ s.2 < s.1.length))) ∧ f.length + s.1.length ≤ 6 ∧ resLoop c.rule c.kept n s.1.length s f = resLoop c.rule c.kept n c.st.1.length c.st [],
    ⟨_, c.st, [], none, none, none, none, rfl, rfl, rfl, ⟨wf.now.len, wf.now.hand⟩, by have := wf.now.len; simpa using this, rfl⟩, ?_⟩
  rintro m δ' G' ⟨s, f, x4, x5, x6, x7, rfl, rfl, rfl, w, hfl, e⟩
  have hle : Le (GC K G r dx k t pa c) (gu (GC K G r dx k t pa c) q (.lst (f.map dI))) := Le.new hq
  have hr1 := hle _ _ (o.r_at hl)
  have hlen : atI [eRows s.1, dI (s.2 : Nat)] 0 = some (eRows s.1) := rfl
  have test : ∀ Qb : Bool → GH → Prop, (n < (s.1.length : Int) → Qb true (gu (GC K G r dx k t pa c) q (.lst (f.map dI)))) → (¬ n < (s.1.length : Int) → Qb false (gu (GC K G r dx k t pa c) q (.lst (f.map dI)))) →
      dTest (dOp (dI0 fun i j => .bl (decide (j < i))) (dBi dLen (dCons (dOp dIx (dVar 2) (dC (dI 0))) dNil)) (dVar 1)) [some (dR r), some (dI n), some (eSta s), some (dR q), x4, x5, x6, x7] (gu (GC K G r dx k t pa c) q (.lst (f.map dI))) Qb := fun Qb a b => by
    simp [eSta, eRows, atI, ixN]
    by_cases hc : n < (s.1.length : Int)
    · simpa [hc] using a hc
    · simpa [hc] using b hc
  refine test _ (fun hc => ⟨fun _ => ?_, fun h => by cases h⟩) (fun hc => ⟨(fun h => by cases h), fun _ => ?_⟩)
  · have body : ∀ E' : DEnds, (∀ (s2 : Sta) (f2 : List Int) (x4 x5 x6 x7 : Option D), s2.1.length < s.1.length → (s2.1.length ≤ 6 ∧ (s2.2 = 0 ∨ (c.rule = "clock" ∧ s2.2 < s2.1.length))) → f2.length + s2.1.length ≤ 6 → resLoop c.rule c.kept n s2.1.length s2 f2 = resLoop c.rule c.kept n c.st.1.length c.st [] →
          E'.nx [some (dR r), some (dI n), some (eSta s2), some (dR q), x4, x5, x6, x7] (gu (GC K G r dx k t pa c) q (.lst (f2.map dI)))) →
        dSeq (dAsg (dCall (dsp_loser K) (excD K ED) (dCons (dFld (He.ga K "Cache") "rule" (dVar 0)) (dCons (dVar 2) (dCons (dFld (He.ga K "Cache") "kept" (dVar 0)) dNil)))) (gN 4)) (t_Cache_resize_4 K (excD K ED)) E' [some (dR r), some (dI n), some (eSta s), some (dR q), x4, x5, x6, x7] (gu (GC K G r dx k t pa c) q (.lst (f.map dI))) := fun E' hE => by
      simp
      refine d_fld rfl hr1 (look_rule ..) (d_fld rfl hr1 (look_kept ..) ⟨c.rule, s, dR k, c.kept, rfl, pin_k o hl hle, by omega, wf.rule, fun e => ?_, ?_⟩)
      · rcases w.2 with h0 | ⟨_, h1⟩
        · cases e : s.1 with
          | nil => exact .inl rfl
          | cons a as => right; rw [h0]; simp
        · exact .inr h1
      have hun : resLoop c.rule c.kept n s.1.length s f = match loserF c.rule s c.kept with
          | none => none
          | some (i, s') => resLoop c.rule c.kept n (s.1.length - 1) (withoutF s' i) (f ++ [(rwA s'.1 i).1]) := by
        cases hs : s.1.length with
        | zero => rw [hs] at hc; have := hn.1; omega
        | succ m =>
          rw [resLoop, if_pos hc]
          rfl
      rw [hun] at e
      cases hL : loserF c.rule s c.kept with
      | none =>
        rw [hL] at e
        have e : none = resLoop c.rule c.kept n c.st.1.length c.st [] := e
        simp only [resizeC, ← e, Option.map_none] at hok
        simp [t_Cache_resize_4, eLos, isN]
        exact ⟨G, back _ hle, hok⟩
      | some x =>
        obtain ⟨i, s'⟩ := x
        rw [hL] at e
        obtain ⟨l1, l2, l3, l4⟩ := WFs.loser (size := n) wf.rule w hL
        have ha := at_rows l1
        have e0 : atI [dI (rwA s'.1 i).1, dI (rwA s'.1 i).2] 0 = some (dI (rwA s'.1 i).1) := rfl
        simp [t_Cache_resize_4, eLos, isN, t_Cache_resize_3, t_Cache_resize_2, eRows]
        refine ⟨.inl ⟨rfl, _, gu_same⟩, ?_⟩
        refine ⟨_, ha, ?_⟩
        simp [eRow, e0]
        refine ⟨by omega, ?_⟩
        simp [t_Cache_resize_1]
        refine ⟨s', i, rfl, by omega, ?_⟩
        have := hE (withoutF s' i) (f ++ [(rwA s'.1 i).1]) (some (.tup [dI i, .tup (s'.1.map eRow), dI s'.2])) (some (dI i)) (some (.tup (s'.1.map eRow))) (some (dI s'.2)) (by omega) ⟨by omega, l4⟩ (by simp; omega) (by rw [← e, show (withoutF s' i).1.length = s.1.length - 1 by omega])
        rw [List.map_append] at this
        exact this
    refine body _ fun s2 f2 y4 y5 y6 y7 h1 h2 h3 h4 => ?_
    exact ⟨_, _, h1, Ent.refl _, s2, f2, y4, y5, y6, y7, rfl, rfl, rfl, h2, h3, h4⟩
  · have hstop : resLoop c.rule c.kept n s.1.length s f = some (s, f) := by
      cases hs : s.1.length with
      | zero => rfl
      | succ m => rw [resLoop, if_neg hc]
    rw [hstop] at e
    simp only [resizeC, ← e, Option.map_some] at hok
    simp [t_Cache_resize_7]
    refine g_fld rfl hr1 (by simp) ?_
    simp [t_Cache_resize_6]
    refine g_fld rfl gu_same (by simp) ?_
    simp [t_Cache_resize_5]
    have hq2 : q ≠ r := q1
    refine ⟨_, ?_, hok q q3 q1⟩
    have e2 : gu (gu (GC K G r dx k t pa c) q (.lst (f.map dI))) r (.ins (He.ga K "Cache") dx (flds { c with st := s, size := n } k t)) = gu (GC K G r dx k t pa { c with st := s, size := n }) q (.lst (f.map dI)) := by
      rw [gu_comm q1, o.put_r hl (c' := { c with st := s, size := n }) rfl rfl]
    rw [e2, GC_gu (c := { c with st := s, size := n }) o hl q1 q2, gu_comm (Ne.symm q1)]
    exact close_c (c := { c with st := s, size := n }) (o.more q2) hl (Le.refl _)
end
end Cb

set_option Elab.async false
set_option linter.all false
set_option maxRecDepth 100000
set_option maxHeartbeats 4000000
/-! What the law's helpers compute: draws, sameness. -/
namespace Cb
open PySem PySem.Spec PyProof.Rows L2 Dl
/-- the draws' state -/
def SW : MO → List (Addr × MO) → Prop := fun m L => L = [] ∧ ∃ (ns : List Int) (i x y : Int), m = .lst [.frl (ns.map dI), dI i, dI x, dI y] ∧ 0 ≤ i
def Wo (K : PySem.W.Frag) : MO := absS K SW
def dsp_law_start (K : PySem.W.Frag) : DSp := fun ds G Q _ => ∃ ns : List Int, ds = [.frl (ns.map dI)] ∧ ns.length ≤ 63 ∧ ∀ p, G p = none → Q (dR p) (gu G p (Wo K))
def dsp_law_drawn (K : PySem.W.Frag) : DSp := fun ds G Q _ => ∃ b many, ds = [dR b, dI many] ∧ 0 < many ∧ many < 1073741824 ∧ G b = some (Wo K) ∧ ∀ n, 0 ≤ n → n < many → Q (dI n) G
def dsp_law_rule (K : PySem.W.Frag) : DSp := fun ds G Q _ => ∃ b, ds = [dR b] ∧ G b = some (Wo K) ∧ ∀ r ∈ ruleIx, Q (dS r) G
abbrev N_law_start : List Str := ["_law_script", "_law_mixed", "_law_cell"]
abbrev ps_law_start : List Str := ["_law_script"]
@[simp] theorem st_law_start (x0 : D) : startD N_law_start [x0] = [some x0, none, none] := rfl
def t_law_start (K : PySem.W.Frag) (WD : XDW) : TDS := (dSeq (dAsg (dC (dI 1)) (gN 1))
  (dSeq (dFor K (iLstD (dVar 0)) (gN 2) (dAsg (dOp (dI2 (fun _ j => 0 < j) fun i j => .int (i % j)) (dOp dAdd (dOp dAdd (dOp dMul (dVar 1) (dC (dI 48271))) (dVar 2)) (dC (dI 7))) (dC (dI 2147483647))) (gN 1)))
  (dRet (dLst (dCons (dVar 0) (dCons (dC (dI 0)) (dCons (dVar 1) (dCons (dC (dI 0)) dNil))))))))
abbrev N_law_drawn : List Str := ["_law_state", "_law_many", "_law_found", "_law_cell"]
abbrev ps_law_drawn : List Str := ["_law_state", "_law_many"]
@[simp] theorem st_law_drawn (x0 x1 : D) : startD N_law_drawn [x0, x1] = [some x0, some x1, none, none] := rfl
def t_law_drawn_1 (K : PySem.W.Frag) (WD : XDW) : TDS := (dRet (dOp (dI2 (fun _ j => 0 < j) fun i j => .int (i % j)) (dOp (dI2 CDiv fun i j => .int (i / j)) (dOp dIx (dVar 0) (dC (dI 2))) (dC (dI 7))) (dVar 1)))
def t_law_drawn_2 (K : PySem.W.Frag) (WD : XDW) : TDS := (dSeq (dAsg (dOp (dI2 (fun _ j => 0 < j) fun i j => .int (i % j)) (dOp dAdd (dOp dMul (dOp dIx (dVar 0) (dC (dI 2))) (dC (dI 48271))) (dC (dI 11))) (dC (dI 2147483647))) (gS (dVar 0) (dC (dI 2))))
  (t_law_drawn_1 K WD))
def t_law_drawn_3 (K : PySem.W.Frag) (WD : XDW) : TDS := (dSeq (dIfS (dTest (dOp (dI0 fun i j => .bl (decide (i ≤ j))) (dOp dIx (dVar 0) (dC (dI 1))) (dBi dLen (dCons (dOp dIx (dVar 0) (dC (dI 0))) dNil)))) (dSeq (dAsg (dOp dIx (dOp dIx (dVar 0) (dC (dI 0))) (dOp (dI0 fun i j => .int (i - j)) (dOp dIx (dVar 0) (dC (dI 1))) (dC (dI 1)))) (gN 3))
  (dSeq (dAsg (dIfE (dTest (dOp (dI0 fun i j => .bl (decide (j ≤ i))) (dVar 3) (dOp (dI2 CPow fun i j => .int (i ^ j.toNat)) (dC (dI 10)) (dC (dI 18))))) (dOp (dI2 CDiv fun i j => .int (i / j)) (dVar 3) (dVar 1)) (dC (dI 0))) (gS (dVar 0) (dC (dI 3))))
  (dRet (dOp (dI2 (fun _ j => 0 < j) fun i j => .int (i % j)) (dVar 3) (dVar 1))))) dNext)
  (t_law_drawn_2 K WD))
def t_law_drawn_4 (K : PySem.W.Frag) (WD : XDW) : TDS := (dSeq (dAsg (dOp dAdd (dOp dIx (dVar 0) (dC (dI 1))) (dC (dI 1))) (gS (dVar 0) (dC (dI 1))))
  (t_law_drawn_3 K WD))
def t_law_drawn (K : PySem.W.Frag) (WD : XDW) : TDS := (dGhost K (dSeq (dIfS (dTest (dOp (dI0 fun i j => .bl (decide (j < i))) (dOp dIx (dVar 0) (dC (dI 3))) (dC (dI 0)))) (dSeq (dAsg (dOp (dI2 (fun _ j => 0 < j) fun i j => .int (i % j)) (dOp dIx (dVar 0) (dC (dI 3))) (dVar 1)) (gN 2))
  (dSeq (dAsg (dOp (dI2 CDiv fun i j => .int (i / j)) (dOp dIx (dVar 0) (dC (dI 3))) (dVar 1)) (gS (dVar 0) (dC (dI 3))))
  (dRet (dVar 2)))) dNext)
  (t_law_drawn_4 K WD)))
abbrev N_law_rule : List Str := ["_law_state"]
abbrev ps_law_rule : List Str := ["_law_state"]
@[simp] theorem st_law_rule (x0 : D) : startD N_law_rule [x0] = [some x0] := rfl
def t_law_rule (K : PySem.W.Frag) (WD : XDW) : TDS := (dRet (dOp dIx (dLst (dCons (dC (dS "came")) (dCons (dC (dS "used")) (dCons (dC (dS "last")) (dCons (dC (dS "often")) (dCons (dC (dS "clock")) (dCons (dC (dS "high")) dNil))))))) (dCall (dsp_law_drawn K) WD (dCons (dVar 0) (dCons (dC (dI 6)) dNil)))))
section
variable {K : PySem.W.Frag} {ds : List D} {G : GH} {QD : DK} {ED : XD}
theorem close_w {b : Addr} {ns : List Int} {i x y : Int} (h0 : 0 ≤ i) : Ent K (gu G b (.lst [.frl (ns.map dI), dI i, dI x, dI y])) (gu G b (Wo K)) := by
  refine (Ent.close (S := SW) (r := b) (m := .lst [.frl (ns.map dI), dI i, dI x, dI y]) (L := []) gu_same trivial (by simp) (by simp) ⟨rfl, ns, i, x, y, rfl, h0⟩).trans (Ent.le fun c m e => ?_)
  unfold hideG
  by_cases q : c = b
  · subst q
    rw [gu_same] at e
    rw [if_pos rfl]
    exact e
  · rw [gu_ne q] at e
    rw [if_neg q, if_neg (by simp), gu_ne q]
    exact e
theorem open_w {b : Addr} {H : Hp} (g : RelG K G H) (h : G b = some (Wo K)) : ∃ (ns : List Int) (i x y : Int), 0 ≤ i ∧ RelG K (gu G b (.lst [.frl (ns.map dI), dI i, dI x, dI y])) H := by
  obtain ⟨m, L, ⟨rfl, ns, i, x, y, rfl, h0⟩, _, _, g'⟩ := g.open_ h
  exact ⟨ns, i, x, y, h0, g'⟩
theorem len_law_start {Q : DK} {E : XD} (h : dsp_law_start K ds G Q E) : ds.length = ps_law_start.length := by
  obtain ⟨_, rfl, _⟩ := h; rfl
theorem len_law_drawn {Q : DK} {E : XD} (h : dsp_law_drawn K ds G Q E) : ds.length = ps_law_drawn.length := by
  obtain ⟨_, _, rfl, _⟩ := h; rfl
theorem len_law_rule {Q : DK} {E : XD} (h : dsp_law_rule K ds G Q E) : ds.length = ps_law_rule.length := by
  obtain ⟨_, rfl, _⟩ := h; rfl
theorem cmul_c (i : Int) : CMul i 48271 := .inr ⟨by decide, by decide⟩
theorem pure_law_start (h : dsp_law_start K ds G QD ED) : t_law_start K (excD K ED) (retD K QD) (startD N_law_start ds) G := by
  obtain ⟨ns, rfl, hl, hQ⟩ := h
  unfold t_law_start
  simp only [s_dSeq, s_dAsg, s_dC, st_law_start, s_gN, ss_0, ss_s, dFor, s_iLstD, s_dVar, gs_0, gs_s]
  refine ⟨fun i δ' G' => ∃ (m : Int) (x : Option D), δ' = [some (.frl (ns.map dI)), some (dI m), x] ∧ G' = G, ⟨1, none, rfl, rfl⟩, fun _ _ _ _ => trivial, ?_, ?_⟩
  · rintro i x δ' G' hx ⟨m, y, rfl, rfl⟩
    rw [List.getElem?_map] at hx
    cases e : ns[i]? with
    | none => rw [e] at hx; cases hx
    | some n =>
      rw [e] at hx
      cases hx
      simp
      exact ⟨cmul_c _, Ent.refl _⟩
  · rintro δ' G' ⟨m, x, rfl, rfl⟩
    simp
    intro p hp
    exact ⟨_, close_w (by decide), hQ p hp⟩
theorem pure_law_drawn (h : dsp_law_drawn K ds G QD ED) : t_law_drawn K (excD K ED) (retD K QD) (startD N_law_drawn ds) G := by
  obtain ⟨b, many, rfl, h0, h1, hb, hQ⟩ := h
  unfold t_law_drawn
  refine ⟨fun G1 => ∃ (ns : List Int) (i x y : Int), 0 ≤ i ∧ G1 = gu G b (.lst [.frl (ns.map dI), dI i, dI x, dI y]), fun H g => ?_, ?_⟩
  · obtain ⟨ns, i, x, y, hi, g'⟩ := open_w g hb
    exact ⟨_, ⟨ns, i, x, y, hi, rfl⟩, g'⟩
  rintro _ ⟨ns, i, x, y, hi, rfl⟩
  have fin : ∀ (n : Int) (i x y : Int), 0 ≤ i → 0 ≤ n → n < many → ∃ G2, Ent K (gu G b (.lst [.frl (ns.map dI), dI i, dI x, dI y])) G2 ∧ QD (dI n) G2 := fun n i x y hi hn hm => ⟨_, (close_w hi).trans (by rw [gu_id hb]; exact Ent.refl _), hQ n hn hm⟩
  have md : ∀ z : Int, 0 ≤ z % many ∧ z % many < many := fun z => ⟨Int.emod_nonneg _ (by omega), Int.emod_lt_of_pos _ h0⟩
  simp [atI, ixN]
  refine ⟨fun hy => ⟨h0, ⟨h0, h1⟩, fin _ _ _ _ hi (md y).1 (md y).2⟩, fun hy => ?_⟩
  have hx1 : ¬ (2 : Int) < 2 := by decide
  simp [t_law_drawn_4, atI, ixN]
  have last : ∀ i x y, 0 ≤ i → ∀ x2 x3, t_law_drawn_2 K (excD K ED) (retD K QD) [some (dR b), some (dI many), x2, x3] (gu G b (.lst [.frl (ns.map dI), dI i, dI x, dI y])) := fun i x y hi x2 x3 => by
    simp [t_law_drawn_2, atI, ixN]
    refine ⟨cmul_c _, ?_⟩
    simp [t_law_drawn_1, atI, ixN]
    exact ⟨⟨by decide, by decide⟩, h0, fin _ _ _ _ hi (md _).1 (md _).2⟩
  simp [t_law_drawn_3, atI, ixN]
  refine ⟨fun hle => ?_, fun hgt => last _ _ _ (by omega) _ _⟩
  have hlt : i < (ns.length : Int) := by omega
  have hit : i.toNat < ns.length := by omega
  have e1 : (ns.map dI)[i.toNat]? = some (dI (ns[i.toNat])) := by
    rw [List.getElem?_map, List.getElem?_eq_getElem hit]; rfl
  refine ⟨dI ns[i.toNat], by rw [if_pos hi, if_pos hlt]; simp [hit], ⟨by decide, by decide, by decide⟩, ?_⟩
  simp
  exact ⟨fun _ => ⟨⟨h0, h1⟩, h0, fin _ _ _ _ (by omega) (md _).1 (md _).2⟩, fun _ => ⟨h0, fin _ _ _ _ (by omega) (md _).1 (md _).2⟩⟩
theorem pure_law_rule (h : dsp_law_rule K ds G QD ED) : t_law_rule K (excD K ED) (retD K QD) (startD N_law_rule ds) G := by
  obtain ⟨b, rfl, hb, hQ⟩ := h
  simp [t_law_rule]
  intro p hp
  have pb : b ≠ p := fun e => by rw [e, hp] at hb; cases hb
  refine ⟨b, 6, rfl, by decide, by decide, by rw [gu_ne pb]; exact hb, fun n h0 h6 => ?_⟩
  have : n = 0 ∨ n = 1 ∨ n = 2 ∨ n = 3 ∨ n = 4 ∨ n = 5 := by omega
  rcases this with rfl | rfl | rfl | rfl | rfl | rfl <;> exact ⟨_, gu_same, _, rfl, G, ent_new hp, hQ _ (by simp [ruleIx])⟩
end
end Cb

set_option Elab.async false
set_option linter.all false
set_option maxRecDepth 100000
set_option maxHeartbeats 4000000
/-! What the law's helpers compute: sameness; what stays right. -/
namespace Cb
open PySem PySem.Spec PyProof.Rows L2 Dl
/-- the same thing, lists by what stands in them -/
def SameN (G : GH) : Nat → D → D → Prop
  | 0, _, _ => False
  | n + 1, x, y => match x, y with
    | .tup xs, .tup ys => xs.length = ys.length ∧ ys.length ≤ 1000 ∧ ∀ (i : Nat) (x y : D), xs[i]? = some x → ys[i]? = some y → SameN G n x y
    | .at (.ref a), .at (.ref b) => ∃ xs ys, G a = some (.lst xs) ∧ G b = some (.lst ys) ∧ xs.length = ys.length ∧ ys.length ≤ 1000 ∧ ∀ (i : Nat) (x y : D), xs[i]? = some x → ys[i]? = some y → SameN G n x y
    | .at v, .at w => v = w ∧ flatV v = true
    | _, _ => False
theorem SameN.le {G G' : GH} (l : Le G G') : ∀ {n : Nat} {x y : D}, SameN G n x y → SameN G' n x y
  | 0, _, _, h => by unfold SameN at h; exact h.elim
  | n + 1, x, y, h => by
    unfold SameN at h ⊢
    split at h
    · obtain ⟨h1, h2, h3⟩ := h
      exact ⟨h1, h2, fun i x y hx hy => SameN.le l (h3 i x y hx hy)⟩
    · obtain ⟨xs, ys, e1, e2, h1, h2, h3⟩ := h
      exact ⟨xs, ys, l _ _ e1, l _ _ e2, h1, h2, fun i x y hx hy => SameN.le l (h3 i x y hx hy)⟩
    · exact h
    · exact h.elim
def dsp_law_same (K : PySem.W.Frag) (n : Nat) : DSp := fun ds G Q _ => ∃ x y, ds = [x, y] ∧ SameN G n x y ∧ Q (dB true) G
abbrev N_law_same : List Str := ["_law_found", "_law_due", "_law_k", "_law_alike"]
abbrev ps_law_same : List Str := ["_law_found", "_law_due"]
@[simp] theorem st_law_same (x0 x1 : D) : startD N_law_same [x0, x1] = [some x0, some x1, none, none] := rfl
def t_law_same (K : PySem.W.Frag) (n : Nat) (WD : XDW) : TDS := (dSeq (dIfS (dTest (dIsi [.tup, .lst] (dVar 1))) (dSeq (dIfS (dOr (dNot (dTest (dIsi [.tup, .lst] (dVar 0)))) (dTest (dOp dNe (dIsi [.lst] (dVar 0)) (dIsi [.lst] (dVar 1))))) (dRet (dC (dB false))) dNext)
  (dSeq (dIfS (dTest (dOp dNe (dBi dLen (dCons (dVar 0) dNil)) (dBi dLen (dCons (dVar 1) dNil)))) (dRet (dC (dB false))) dNext)
  (dRet (dOp dEq (dLc K (iRng1D (dCons (dBi dLen (dCons (dVar 1) dNil)) dNil)) (gN 2) (dNot (dTest (dCall (dsp_law_same K n) noX (dCons (dOp dIx (dVar 0) (dVar 2)) (dCons (dOp dIx (dVar 1) (dVar 2)) dNil))))) (dVar 2) [2]) (dLst dNil))))) dNext)
  (dSeq (dAsg (dAndV (dOp dEq (dIsi [.bl] (dVar 0)) (dIsi [.bl] (dVar 1))) (dOp dEq (dIsi [.int] (dVar 0)) (dIsi [.int] (dVar 1)))) (gN 3))
  (dRet (dAndV (dVar 3) (dOp dEq (dVar 0) (dVar 1))))))
section
variable {K : PySem.W.Frag} {ds : List D} {G : GH} {QD : DK} {ED : XD}
theorem len_law_same {n : Nat} {Q : DK} {E : XD} (h : dsp_law_same K n ds G Q E) : ds.length = ps_law_same.length := by
  obtain ⟨_, _, rfl, _⟩ := h; rfl
theorem pure_law_same {n : Nat} (h : dsp_law_same K (n + 1) ds G QD ED) : t_law_same K n (excD K ED) (retD K QD) (startD N_law_same ds) G := by
  obtain ⟨x, y, rfl, hs, hQ⟩ := h
  unfold SameN at hs
  have atn : ∀ (xs : List D) (i : Nat) (x : D), xs[i]? = some x → atI xs (0 + (i : Int)) = some x := fun xs i x h => by rw [Int.zero_add]; exact atI_nat h
  have rg : ∀ m : Nat, m ≤ 1000 → ((m : Int) < 2 ^ 62 ∧ -(2 ^ 62) ≤ (m : Int)) := fun m hm => by omega
  have fin : ∀ (l : Nat) p, G p = none → ∀ q, gu G p (.lst ([] : List D)) q = none → ∃ a, DPy (gu (gu G p (.lst [])) q (.lst [])) (dR p) a ∧ ∃ x, DPy (gu (gu G p (.lst [])) q (.lst [])) (dR q) x ∧ shp a = true ∧ shp x = true ∧ ∃ G2, Ent K (gu (gu G p (.lst [])) q (.lst [])) G2 ∧ QD (dB (a.eqv x)) G2 := fun _ p hp q hq => by
    refine ⟨.list [], .lst (by rw [gu_ne (Ne.symm (gu_none hq).1), gu_same]) .nil, .list [], .lst gu_same .nil, by decide +kernel, by decide +kernel, G, (ent_new hq).trans (ent_new hp), ?_⟩
    have e : PyData.eqv (.list []) (.list []) = true := by simp [PyData.eqv, PyData.eqvAll]
    rw [e]
    exact hQ
  have nof : ∀ l : List D, (l.filter (fun _ => false)).map (id : D → D) = [] := fun l => by rw [List.filter_eq_nil_iff.mpr (by simp)]; rfl
  split at hs
  · rename_i xs ys
    obtain ⟨h1, h2, h3⟩ := hs
    simp [t_law_same, kiD, Ki.is, h1]
    refine dlc_pure (rgD 0 ys.length) id (fun _ => false) (fun R h => ?_) (by rw [rgD_len, zL_val]; omega) ?_ ?_
    · simp
      exact ⟨by omega, h _ fun _ _ _ => trivial⟩
    · intro p hp x hx acc Qt Qf q1 q2
      obtain ⟨i, hi⟩ := List.mem_iff_getElem?.mp hx
      obtain ⟨hil, rfl⟩ := rgD_of hi
      have e1 := atn xs i _ (List.getElem?_eq_getElem (by rw [h1]; exact hil))
      have e2 := atn ys i _ (List.getElem?_eq_getElem hil)
      simp at e1 e2
      simp [e1, e2]
      refine ⟨_, _, rfl, (h3 i _ _ (List.getElem?_eq_getElem (by rw [h1]; exact hil)) (List.getElem?_eq_getElem hil)).le (Le.new hp), ?_⟩
      simp
      exact q2 rfl
    · intro p hp
      rw [nof]
      exact fun q hq => fin 0 p hp q hq
  · rename_i a b
    obtain ⟨xs, ys, e1, e2, h1, h2, h3⟩ := hs
    simp [t_law_same, kiD, kiMO, Ki.is, e1, e2, szMO, h1]
    refine dlc_pure (rgD 0 ys.length) id (fun _ => false) (fun R h => ?_) (by rw [rgD_len, zL_val]; omega) ?_ ?_
    · simp [e2, szMO]
      exact ⟨by omega, h _ fun _ _ _ => trivial⟩
    · intro p hp x hx acc Qt Qf q1 q2
      obtain ⟨i, hi⟩ := List.mem_iff_getElem?.mp hx
      obtain ⟨hil, rfl⟩ := rgD_of hi
      have i1 := atn xs i _ (List.getElem?_eq_getElem (by rw [h1]; exact hil))
      have i2 := atn ys i _ (List.getElem?_eq_getElem hil)
      have g1 : gu G p (.lst acc) a = some (.lst xs) := Le.new hp _ _ e1
      have g2 : gu G p (.lst acc) b = some (.lst ys) := Le.new hp _ _ e2
      simp at i1 i2
      simp
      refine ⟨_, g1, _, i1, _, g2, _, i2, ?_⟩
      refine ⟨_, _, rfl, (h3 i _ _ (List.getElem?_eq_getElem (by rw [h1]; exact hil)) (List.getElem?_eq_getElem hil)).le (Le.new hp), ?_⟩
      simp
      exact q2 rfl
    · intro p hp
      rw [nof]
      exact fun q hq => fin 0 p hp q hq
  · rename_i v w _
    obtain ⟨rfl, hf⟩ := hs
    have hQ' := ret_same (K := K) hQ
    cases v with
    | non =>
      simp [t_law_same, kiD, Ki.is]
      refine ⟨.none, .non, .none, .non, by decide +kernel, by decide +kernel, ?_⟩
      simpa [PyData.eqv] using hQ'
    | bl b => simpa [t_law_same, kiD, Ki.is] using hQ'
    | int i => simpa [t_law_same, kiD, Ki.is] using hQ'
    | str z => simpa [t_law_same, kiD, Ki.is] using hQ'
    | _ => cases hf
  · exact hs.elim
end
end Cb

set_option Elab.async false
set_option linter.all false
set_option maxRecDepth 100000
set_option maxHeartbeats 4000000
/-! A cache stays right. -/
namespace Cb
open PySem PySem.Spec PyProof.Rows L2 Dl
theorem wf_new {rule : Str} {size : Int} (hr : rule ∈ ruleIx) (hs : 1 ≤ size ∧ size ≤ 6) : WFc (newC rule size) := ⟨hr, ⟨by simp [newC], .inl rfl, by simp [newC], by simp [newC], hs⟩, by simp [newC]⟩
theorem hitF_len {r : Str} {s : Sta} {p : Int} (hp : p ∈ pagesS s) : (hitF r s p).1.length ≤ s.1.length := by
  unfold hitF
  split
  · have h : (s.1.filter (fun x => decide (x.1 ≠ p))).length < s.1.length := by
      obtain ⟨x, hx, e⟩ := List.mem_map.mp hp
      rw [List.length_filter_lt_length_iff_exists]
      exact ⟨x, hx, by simpa using e⟩
    simp only [List.length_append, List.length_cons, List.length_nil]
    omega
  · split
    · simp
    · split
      · simp
      · exact Nat.le_refl _
theorem hitF_hand {r : Str} {s : Sta} {p : Int} (h : s.2 = 0 ∨ (r = "clock" ∧ s.2 < s.1.length)) : (hitF r s p).2 = 0 ∨ (r = "clock" ∧ (hitF r s p).2 < (hitF r s p).1.length) := by
  have e2 : (hitF r s p).2 = s.2 := by
    unfold hitF
    split
    · rfl
    · split
      · rfl
      · split <;> rfl
  rcases h with h | ⟨h1, h2⟩
  · exact .inl (by rw [e2, h])
  · right
    refine ⟨h1, ?_⟩
    rw [e2]
    subst h1
    unfold hitF
    simp
    exact h2
theorem missF_ok {r : Str} {size : Int} {s s' : Sta} {p : Int} {ps : List Int} {o : Option Int} (hr : r ∈ ruleIx) (hs : 1 ≤ size ∧ size ≤ 6) (w : s.1.length ≤ 6 ∧ (s.2 = 0 ∨ (r = "clock" ∧ s.2 < s.1.length))) (h : missF r size s p ps = some (s', o)) :
    s'.1.length ≤ 6 ∧ (s'.2 = 0 ∨ (r = "clock" ∧ s'.2 < s'.1.length)) := by
  unfold missF at h
  by_cases hl : (s.1.length : Int) < size
  · rw [if_pos hl] at h
    cases h
    refine ⟨by simp; omega, ?_⟩
    rcases w.2 with h | ⟨h1, h2⟩
    · exact .inl h
    · exact .inr ⟨h1, by simp; omega⟩
  · rw [if_neg hl] at h
    cases hL : loserF r s ps with
    | none => rw [hL] at h; cases h
    | some x =>
      obtain ⟨i, s1⟩ := x
      obtain ⟨l1, l2, l3, l4⟩ := WFs.loser (size := size) hr w hL
      obtain ⟨rows, hand⟩ := s1
      rw [hL] at h
      have l1 : i < rows.length := l1
      have l2 : rows.length = s.1.length := l2
      by_cases hc : r = "clock"
      · simp only [if_pos hc] at h
        cases h
        have e : (rows.take i ++ [(p, (1 : Int))] ++ rows.drop (i + 1)).length = rows.length := by
          simp
          omega
        refine ⟨by rw [e]; omega, .inr ⟨hc, Nat.mod_lt _ (by rw [e]; omega)⟩⟩
      · simp only [if_neg hc] at h
        cases h
        refine ⟨?_, ?_⟩
        · have := out_len l1
          simp
          omega
        · have hh : Hand r s := fun e => absurd e hc
          obtain ⟨_, _, m3, _⟩ := loserF_lt hr hh hL
          obtain ⟨e, _⟩ := m3 hc
          left
          have e2 : hand = s.2 := by rw [← e]
          rcases w.2 with h0 | ⟨h1, _⟩
          · show hand = 0
            rw [e2, h0]
          · exact absurd h1 hc
theorem wf_ask {c c' : CM} {p : Int} {b : Bool} {o : Option Int} (w : WFc c) (h : askF c p = some (c', b, o)) : WFc c' := by
  unfold askF at h
  by_cases hp : p ∈ c.pages
  · rw [if_pos hp] at h
    cases h
    have := hitF_len (r := c.rule) (s := c.st) hp
    exact ⟨w.rule, ⟨Nat.le_trans this w.now.len, hitF_hand w.now.hand, w.now.kn, w.now.k9, w.now.sz⟩, w.pts⟩
  · rw [if_neg hp] at h
    cases hm : missF c.rule c.size c.st p c.kept with
    | none => rw [hm] at h; cases h
    | some x =>
      obtain ⟨st, q⟩ := x
      rw [hm] at h
      cases h
      obtain ⟨h1, h2⟩ := missF_ok w.rule w.now.sz ⟨w.now.len, w.now.hand⟩ hm
      exact ⟨w.rule, ⟨h1, h2, w.now.kn, w.now.k9, w.now.sz⟩, w.pts⟩
theorem wf_pin {c : CM} {p : Int} (w : WFc c) (h : held c (dI p) = true) : WFc (pinF c p) := by
  have h9 : 0 ≤ p ∧ p ≤ 9 := by
    have : 0 ≤ p ∧ p ≤ 9 ∧ p ∈ pagesS c.st := by simpa [held] using h
    exact ⟨this.1, this.2.1⟩
  refine ⟨w.rule, ⟨w.now.len, w.now.hand, ?_, ?_, w.now.sz⟩, w.pts⟩
  · show (if p ∈ c.kept then c.kept else c.kept ++ [p]).Nodup
    split
    · exact w.now.kn
    · rename_i hn
      rw [List.nodup_append]
      refine ⟨w.now.kn, by simp, fun x hx y hy => ?_⟩
      have hy : y = p := by simpa using hy
      rw [hy]
      rintro rfl
      exact hn hx
  · show ∀ q ∈ (if p ∈ c.kept then c.kept else c.kept ++ [p]), _
    intro q hq
    split at hq
    · exact w.now.k9 q hq
    · rcases List.mem_append.mp hq with h | h
      · exact w.now.k9 q h
      · have : q = p := by simpa using h
        rw [this]; exact h9
theorem wf_unpin {c : CM} {p : Int} (w : WFc c) : WFc (unpinF c p) := ⟨w.rule, ⟨w.now.len, w.now.hand, w.now.kn.sublist List.filter_sublist, fun q hq => w.now.k9 q (List.mem_filter.mp hq).1, w.now.sz⟩, w.pts⟩
theorem without_ok {r : Str} {s : Sta} {i : Nat} (w : s.1.length ≤ 6 ∧ (s.2 = 0 ∨ (r = "clock" ∧ s.2 < s.1.length))) : (withoutF s i).1.length ≤ 6 ∧ ((withoutF s i).2 = 0 ∨ (r = "clock" ∧ (withoutF s i).2 < (withoutF s i).1.length)) := by
  refine ⟨?_, ?_⟩
  · show (outF s.1 i).length ≤ 6
    unfold outF
    rw [List.length_append, List.length_take, List.length_drop]
    have := w.1
    by_cases h : i < s.1.length
    · omega
    · omega
  · rcases w.2 with h | ⟨h1, h2⟩
    · left
      unfold withoutF
      rw [h]
      simp
    · unfold withoutF
      simp only
      generalize (if i < s.2 then s.2 - 1 else s.2) = hh
      by_cases q : hh < (outF s.1 i).length
      · rw [if_pos q]
        exact .inr ⟨h1, q⟩
      · rw [if_neg q]
        exact .inl rfl
theorem wf_drop {c : CM} {p : Int} (w : WFc c) : WFc (dropF c p) := by
  obtain ⟨h1, h2⟩ := without_ok (r := c.rule) (s := c.st) (i := (pagesS c.st).idxOf p) ⟨w.now.len, w.now.hand⟩
  exact ⟨w.rule, ⟨h1, h2, w.now.kn.sublist List.filter_sublist, fun q hq => w.now.k9 q (List.mem_filter.mp hq).1, w.now.sz⟩, w.pts⟩
theorem res_ok {r : Str} {kept : List Int} {size : Int} (hr : r ∈ ruleIx) : ∀ (n : Nat) (s : Sta) (f : List Int) {s' : Sta} {f' : List Int}, (s.1.length ≤ 6 ∧ (s.2 = 0 ∨ (r = "clock" ∧ s.2 < s.1.length))) → resLoop r kept size n s f = some (s', f') → s'.1.length ≤ 6 ∧ (s'.2 = 0 ∨ (r = "clock" ∧ s'.2 < s'.1.length))
  | 0, s, f, s', f', w, h => by cases h; exact w
  | n + 1, s, f, s', f', w, h => by
    unfold resLoop at h
    split at h
    · cases hL : loserF r s kept with
      | none => rw [hL] at h; cases h
      | some x =>
        obtain ⟨i, s1⟩ := x
        rw [hL] at h
        obtain ⟨l1, l2, l3, l4⟩ := WFs.loser (size := size) hr w hL
        exact res_ok hr n _ _ ⟨by omega, l4⟩ h
    · cases h; exact w
theorem wf_resize {c c' : CM} {n : Int} {f : List Int} (w : WFc c) (hn : 1 ≤ n ∧ n ≤ 6) (h : resizeC c n = some (c', f)) : WFc c' := by
  unfold resizeC at h
  cases e : resLoop c.rule c.kept n c.st.1.length c.st [] with
  | none => rw [e] at h; cases h
  | some x =>
    rw [e] at h
    cases h
    obtain ⟨h1, h2⟩ := res_ok w.rule _ _ _ (s' := x.1) (f' := x.2) ⟨w.now.len, w.now.hand⟩ e
    exact ⟨w.rule, ⟨h1, h2, w.now.kn, w.now.k9, hn⟩, w.pts⟩
theorem mem_putPt {ps : List (Str × Snap)} {z : Str} {s : Snap} {x : Str × Snap} (h : x ∈ putPt ps z s) : x = (z, s) ∨ x ∈ ps := by
  unfold putPt at h
  split at h
  · obtain ⟨y, hy, e⟩ := List.mem_map.mp h
    split at e
    · rename_i q
      exact .inl (by rw [← e, q])
    · exact .inr (by rw [← e]; exact hy)
  · rcases List.mem_append.mp h with h | h
    · exact .inr h
    · exact .inl (by simpa using h)
theorem wf_mark {c : CM} {z : Str} (w : WFc c) : WFc (markC c z) := ⟨w.rule, w.now, fun q hq => by
  rcases mem_putPt hq with rfl | h
  · exact w.now
  · exact w.pts q h⟩
theorem wf_go {c c' : CM} {z : Str} (w : WFc c) (h : goC c z = some c') : WFc c' := by
  unfold goC at h
  cases e : c.pts.find? (fun x => decide (x.1 = z)) with
  | none => rw [e] at h; cases h
  | some x =>
    rw [e] at h
    cases h
    exact ⟨w.rule, w.pts x (List.mem_of_find?_eq_some e), w.pts⟩
theorem go_pts {c c' : CM} {z : Str} (h : goC c z = some c') : c'.pts = c.pts := by
  unfold goC at h
  cases e : c.pts.find? (fun x => decide (x.1 = z)) with
  | none => rw [e] at h; cases h
  | some x => rw [e] at h; cases h; rfl
theorem res_pts {c c' : CM} {n : Int} {f : List Int} (h : resizeC c n = some (c', f)) : c'.pts = c.pts := by
  unfold resizeC at h
  cases e : resLoop c.rule c.kept n c.st.1.length c.st [] with
  | none => rw [e] at h; cases h
  | some x => rw [e] at h; cases h; rfl
theorem ask_pts {c c' : CM} {p : Int} {b : Bool} {o : Option Int} (h : askF c p = some (c', b, o)) : c'.pts = c.pts := by
  unfold askF at h
  by_cases hp : p ∈ c.pages
  · rw [if_pos hp] at h; cases h; rfl
  · rw [if_neg hp] at h
    cases hm : missF c.rule c.size c.st p c.kept with
    | none => rw [hm] at h; cases h
    | some x => rw [hm] at h; cases h; rfl
/-- names -/
def Nm (ok : List Str) (c : CM) : Prop := (c.pts.map (·.1)).Nodup ∧ ∀ z ∈ c.pts.map (·.1), z ∈ ok
theorem names_put {ps : List (Str × Snap)} {z : Str} {s : Snap} : (putPt ps z s).map (·.1) = if z ∈ ps.map (·.1) then ps.map (·.1) else ps.map (·.1) ++ [z] := by
  unfold putPt
  have e : (ps.any fun x => decide (x.1 = z)) = decide (z ∈ ps.map (·.1)) := by
    by_cases h : z ∈ ps.map (·.1)
    · rw [decide_eq_true h, List.any_eq_true]
      obtain ⟨x, hx, e⟩ := List.mem_map.mp h
      exact ⟨x, hx, by simpa using e⟩
    · rw [decide_eq_false h, List.any_eq_false]
      intro x hx
      simp only [decide_eq_true_eq]
      rintro rfl
      exact h (List.mem_map.mpr ⟨x, hx, rfl⟩)
  rw [e]
  by_cases h : z ∈ ps.map (·.1)
  · rw [if_pos h]
    simp only [h, decide_true, if_true]
    rw [List.map_map]
    apply List.map_congr_left
    intro x _
    simp only [Function.comp]
    split <;> rfl
  · rw [if_neg h]
    simp only [h, decide_false, Bool.false_eq_true, if_false]
    rw [List.map_append]
    rfl
theorem nm_mark {ok : List Str} {c : CM} {z : Str} (h : Nm ok c) (hz : z ∈ ok) : Nm ok (markC c z) := by
  unfold Nm markC
  simp only
  rw [names_put]
  split
  · exact h
  · rename_i hn
    refine ⟨?_, fun x hx => ?_⟩
    · rw [List.nodup_append]
      refine ⟨h.1, by simp, fun x hx y hy => ?_⟩
      have hy : y = z := by simpa using hy
      rw [hy]
      rintro rfl
      exact hn hx
    · rcases List.mem_append.mp hx with h' | h'
      · exact h.2 x h'
      · have : x = z := by simpa using h'
        rw [this]; exact hz
end Cb

set_option Elab.async false
set_option linter.all false
set_option maxRecDepth 100000
set_option maxHeartbeats 4000000
/-! What the program's defs compute: a stream run by a rule; a drawn stream. -/
namespace Cb
open PySem PySem.Spec PyProof.Rows L2 Dl
abbrev Ans := Bool × Option Int
def eAns (q : Ans) : D := .tup [dB q.1, eOpt q.2]
/-- an ask: the state behind it, whether it was held, what goes -/
def stepF (r : Str) (size : Int) (s : Sta) (p : Int) : Sta × Ans :=
  if p ∈ pagesS s then (hitF r s p, true, none)
  else match missF r size s p [] with
    | some (s', o) => (s', false, o)
    | none => (s, false, none)
def runG (r : Str) (size : Int) : Sta → List Int → List Ans × Sta
  | s, [] => ([], s)
  | s, p :: ps => ((stepF r size s p).2 :: (runG r size (stepF r size s p).1 ps).1, (runG r size (stepF r size s p).1 ps).2)
def missesL (rows : List Ans) : Nat := (rows.filter fun q => !q.1).length
abbrev sta0 : Sta := ([], 0)
/-- a state as asks leave it -/
structure SOk (r : Str) (size : Int) (s : Sta) : Prop where
  len : (s.1.length : Int) ≤ size
  hand : s.2 = 0 ∨ (r = "clock" ∧ s.2 < s.1.length)
  nd : (pagesS s).Nodup
theorem sok0 {r : Str} {size : Int} (h : 1 ≤ size) : SOk r size sta0 := ⟨by simp [sta0]; omega, .inl rfl, by simp [pagesS, sta0]⟩
theorem SOk.handOk {r : Str} {size : Int} {s : Sta} (w : SOk r size s) : Hand r s := fun h => by
  rcases w.hand with h0 | ⟨_, h1⟩
  · cases e : s.1 with
    | nil => exact .inl rfl
    | cons a as => right; rw [h0]; simp
  · exact .inr h1
theorem someF_nil (rows : List Row) : someF rows [] = List.range rows.length := by
  unfold someF
  rw [List.filter_eq_self.mpr (by simp)]
  exact List.zipIdx_map_snd 0 rows ▸ by simp [List.range_eq_range']
theorem loserF_some {r : Str} {s : Sta} (h : s.1 ≠ []) : ∃ x, loserF r s [] = some x := by
  unfold loserF
  rw [someF_nil]
  cases e : s.1 with
  | nil => exact absurd e h
  | cons a as =>
    rw [List.length_cons, List.range_succ_eq_map]
    simp only
    split
    · exact ⟨_, rfl⟩
    · split
      · exact ⟨_, rfl⟩
      · split
        · exact ⟨_, rfl⟩
        · split
          · exact ⟨_, rfl⟩
          · exact ⟨_, rfl⟩
theorem missF_some {r : Str} {size : Int} {s : Sta} {p : Int} (h : 1 ≤ size) : ∃ s' o, missF r size s p [] = some (s', o) := by
  unfold missF
  by_cases hl : (s.1.length : Int) < size
  · rw [if_pos hl]; exact ⟨_, _, rfl⟩
  · rw [if_neg hl]
    have : s.1 ≠ [] := by intro e; rw [e] at hl; simp at hl; omega
    obtain ⟨⟨i, rows, h⟩, e⟩ := loserF_some (r := r) this
    rw [e]
    simp only
    split
    · exact ⟨_, _, rfl⟩
    · exact ⟨_, _, rfl⟩
def dsp_need_stream (K : PySem.W.Frag) : DSp := fun ds G Q _ => ∃ ps : List Int, ds = [.tup (ps.map dI)] ∧ ps.length ≤ 60 ∧ (∀ p ∈ ps, 0 ≤ p ∧ p ≤ 9) ∧ Q dN G
def dsp_asked (K : PySem.W.Frag) : DSp := fun ds G Q _ => ∃ r size s p, ds = [dS r, dI size, eSta s, dI p] ∧ s.1.length ≤ 1000 ∧ r ∈ ruleIx ∧ Hand r s ∧ 1 ≤ size ∧
  Q (.tup [eSta (stepF r size s p).1, dB (stepF r size s p).2.1, eOpt (stepF r size s p).2.2]) G
def dsp_run_by (K : PySem.W.Frag) : DSp := fun ds G Q _ => ∃ r size ps, ds = [dS r, dI size, .tup (List.map dI ps)] ∧ ps.length ≤ 1000 ∧ r ∈ ruleIx ∧ 1 ≤ size ∧ size ≤ 6 ∧
  ∀ p, G p = none → Q (.tup [dR p, eSta (runG r size sta0 ps).2]) (gu G p (.lst ((runG r size sta0 ps).1.map eAns)))
def dsp_misses_in (K : PySem.W.Frag) : DSp := fun ds G Q _ => ∃ a rows, ds = [dR a] ∧ G a = some (.lst (List.map eAns rows)) ∧ rows.length ≤ 1000 ∧ Q (dI (missesL rows)) G
def dsp_run (K : PySem.W.Frag) : DSp := fun ds G Q _ => ∃ r size ps, ds = [dS r, dI size, .tup (List.map dI ps)] ∧ ps.length ≤ 60 ∧ (∀ p ∈ ps, 0 ≤ p ∧ p ≤ 9) ∧ r ∈ ruleIx ∧ 1 ≤ size ∧ size ≤ 6 ∧
  ∀ p, G p = none → Q (.tup [dI (missesL (runG r size sta0 ps).1), dR p, .tup ((sortI (pagesS (runG r size sta0 ps).2)).map dI)]) (gu G p (.lst ((runG r size sta0 ps).1.map eAns)))
def dsp_law_stream (K : PySem.W.Frag) : DSp := fun ds G Q _ => ∃ b pages most, ds = [dR b, dI pages, dI most] ∧ 1 ≤ pages ∧ pages ≤ 1000 ∧ 0 ≤ most ∧ most ≤ 1000 ∧ G b = some (Wo K) ∧
  ∀ ps : List Int, ps.length ≤ most.toNat → (∀ p ∈ ps, 0 ≤ p ∧ p < pages) → Q (.tup (ps.map dI)) G
abbrev N_need_stream : List Str := ["stream", "number", "page"]
abbrev ps_need_stream : List Str := ["stream"]
@[simp] theorem st_need_stream (x0 : D) : startD N_need_stream [x0] = [some x0, none, none] := rfl
def t_need_stream (K : PySem.W.Frag) (WD : XDW) : TDS := (dSeq (dIfS (dNot (dTest (dIsi [.tup] (dVar 0)))) dNever dNext)
  (dFor K (iEnTD (dCons (dVar 0) dNil)) (gT 2 (gC (gN 1) (gC (gN 2) gE))) (dIfS (dOr (dTest (dOp dEq (dVar 1) (dC (dI 60)))) (dNot (dTest (dCall (dsp_is_number K) WD (dCons (dVar 2) (dCons (dC (dI 0)) (dCons (dC (dI 9)) dNil))))))) dNever dNext)))
abbrev N_asked : List Str := ["rule", "size", "state", "page", "later", "gone"]
abbrev ps_asked : List Str := ["rule", "size", "state", "page"]
@[simp] theorem st_asked (x0 x1 x2 x3 : D) : startD N_asked [x0, x1, x2, x3] = [some x0, some x1, some x2, some x3, none, none] := rfl
def t_asked (K : PySem.W.Frag) (WD : XDW) : TDS := (dSeq (dIfS (dTest (dOp dIn (dVar 3) (dCall (dsp_pages_of K) WD (dCons (dVar 2) dNil)))) (dRet (dTup (dCons (dCall (dsp_hit K) WD (dCons (dVar 0) (dCons (dVar 2) (dCons (dVar 3) dNil)))) (dCons (dC (dB true)) (dCons (dC dN) dNil))))) dNext)
  (dSeq (dAsg (dCall (dsp_miss K) WD (dCons (dVar 0) (dCons (dVar 1) (dCons (dVar 2) (dCons (dVar 3) (dCons (dTup dNil) dNil)))))) (gT 2 (gC (gN 4) (gC (gN 5) gE))))
  (dRet (dTup (dCons (dVar 4) (dCons (dC (dB false)) (dCons (dVar 5) dNil)))))))
abbrev N_run_by : List Str := ["rule", "size", "stream", "state", "rows", "page", "was_held", "gone"]
abbrev ps_run_by : List Str := ["rule", "size", "stream"]
@[simp] theorem st_run_by (x0 x1 x2 : D) : startD N_run_by [x0, x1, x2] = [some x0, some x1, some x2, none, none, none, none, none] := rfl
def t_run_by (K : PySem.W.Frag) (WD : XDW) : TDS := (dSeq (dPar 3 4 (dCons (dCall (dsp_started K) WD dNil) (dCons (dLst dNil) dNil)))
  (dSeq (dFor K (iSeqD (dVar 2)) (gN 5) (dSeq (dAsg (dCall (dsp_asked K) WD (dCons (dVar 0) (dCons (dVar 1) (dCons (dVar 3) (dCons (dVar 5) dNil))))) (gT 3 (gC (gN 3) (gC (gN 6) (gC (gN 7) gE)))))
  (dDrop (dBm "list" dAppend (dVar 4) (dCons (dTup (dCons (dVar 6) (dCons (dVar 7) dNil))) dNil)))))
  (dRet (dTup (dCons (dVar 4) (dCons (dVar 3) dNil))))))
abbrev N_misses_in : List Str := ["rows", "row"]
abbrev ps_misses_in : List Str := ["rows"]
@[simp] theorem st_misses_in (x0 : D) : startD N_misses_in [x0] = [some x0, none] := rfl
def t_misses_in (K : PySem.W.Frag) (WD : XDW) : TDS := (dRet (dBi dLen (dCons (dLc K (iLstD (dVar 0)) (gN 1) (dNot (dTest (dOp dIx (dVar 1) (dC (dI 0))))) (dVar 1) [1]) dNil)))
abbrev N_run : List Str := ["rule", "size", "stream", "rows", "state"]
abbrev ps_run : List Str := ["rule", "size", "stream"]
@[simp] theorem st_run (x0 x1 x2 : D) : startD N_run [x0, x1, x2] = [some x0, some x1, some x2, none, none] := rfl
def t_run_1 (K : PySem.W.Frag) (WD : XDW) : TDS := (dRet (dTup (dCons (dCall (dsp_misses_in K) WD (dCons (dVar 3) dNil)) (dCons (dVar 3) (dCons (dBi dTuple (dCons (dBi dSortL (dCons (dCall (dsp_pages_of K) WD (dCons (dVar 4) dNil)) dNil)) dNil)) dNil)))))
def t_run_2 (K : PySem.W.Frag) (WD : XDW) : TDS := (dSeq (dAsg (dCall (dsp_run_by K) WD (dCons (dVar 0) (dCons (dVar 1) (dCons (dVar 2) dNil)))) (gT 2 (gC (gN 3) (gC (gN 4) gE))))
  (t_run_1 K WD))
def t_run_3 (K : PySem.W.Frag) (WD : XDW) : TDS := (dSeq (dDrop (dCall (dsp_need_stream K) WD (dCons (dVar 2) dNil)))
  (t_run_2 K WD))
def t_run_4 (K : PySem.W.Frag) (WD : XDW) : TDS := (dSeq (dDrop (dCall (dsp_need_size K) WD (dCons (dVar 1) dNil)))
  (t_run_3 K WD))
def t_run (K : PySem.W.Frag) (WD : XDW) : TDS := (dSeq (dDrop (dCall (dsp_need_rule K) WD (dCons (dVar 0) dNil)))
  (t_run_4 K WD))
abbrev N_law_stream : List Str := ["_law_state", "_law_pages", "_law_most", "_law_found", "_law_k", "_law_turn"]
abbrev ps_law_stream : List Str := ["_law_state", "_law_pages", "_law_most"]
@[simp] theorem st_law_stream (x0 x1 x2 : D) : startD N_law_stream [x0, x1, x2] = [some x0, some x1, some x2, none, none, none] := rfl
def t_law_stream (K : PySem.W.Frag) (WD : XDW) : TDS := (dSeq (dAsg (dLc K (iRng1D (dCons (dCall (dsp_law_drawn K) WD (dCons (dVar 0) (dCons (dOp dAdd (dVar 2) (dC (dI 1))) dNil))) dNil)) (gN 4) dYes (dCall (dsp_law_drawn K) noX (dCons (dVar 0) (dCons (dVar 1) dNil))) [4]) (gN 3))
  (dSeq (dIfS (dTest (dOp dEq (dCall (dsp_law_drawn K) WD (dCons (dVar 0) (dCons (dC (dI 3)) dNil))) (dC (dI 0)))) (dSeq (dAsg (dOp dAdd (dC (dI 2)) (dCall (dsp_law_drawn K) WD (dCons (dVar 0) (dCons (dVar 1) dNil)))) (gN 5))
  (dAsg (dLc K (iRng1D (dCons (dBi dLen (dCons (dVar 3) dNil)) dNil)) (gN 4) dYes (dOp (dI2 (fun _ j => 0 < j) fun i j => .int (i % j)) (dVar 4) (dBi (dTwo fun i j => if j < i then j else i) (dCons (dVar 5) (dCons (dVar 1) dNil)))) [4]) (gN 3))) dNext)
  (dSeq (dFor K (iRng1D (dCons (dCall (dsp_law_drawn K) WD (dCons (dVar 0) (dCons (dC (dI 3)) dNil))) dNil)) (gN 4) (dIfS (dTest (dOp dNe (dVar 3) (dLst dNil))) (dAsg (dCall (dsp_law_drawn K) WD (dCons (dVar 0) (dCons (dVar 1) dNil))) (gS (dVar 3) (dCall (dsp_law_drawn K) WD (dCons (dVar 0) (dCons (dBi dLen (dCons (dVar 3) dNil)) dNil))))) dNext))
  (dRet (dBi dTuple (dCons (dVar 3) dNil))))))
section
variable {K : PySem.W.Frag} {ds : List D} {G : GH} {QD : DK} {ED : XD}
theorem len_need_stream {Q : DK} {E : XD} (h : dsp_need_stream K ds G Q E) : ds.length = ps_need_stream.length := by
  obtain ⟨_, rfl, _⟩ := h; rfl
theorem len_asked {Q : DK} {E : XD} (h : dsp_asked K ds G Q E) : ds.length = ps_asked.length := by
  obtain ⟨_, _, _, _, rfl, _⟩ := h; rfl
theorem len_run_by {Q : DK} {E : XD} (h : dsp_run_by K ds G Q E) : ds.length = ps_run_by.length := by
  obtain ⟨_, _, _, rfl, _⟩ := h; rfl
theorem len_misses_in {Q : DK} {E : XD} (h : dsp_misses_in K ds G Q E) : ds.length = ps_misses_in.length := by
  obtain ⟨_, _, rfl, _⟩ := h; rfl
theorem len_run {Q : DK} {E : XD} (h : dsp_run K ds G Q E) : ds.length = ps_run.length := by
  obtain ⟨_, _, _, rfl, _⟩ := h; rfl
theorem len_law_stream {Q : DK} {E : XD} (h : dsp_law_stream K ds G Q E) : ds.length = ps_law_stream.length := by
  obtain ⟨_, _, _, rfl, _⟩ := h; rfl
theorem pure_need_stream (h : dsp_need_stream K ds G QD ED) : t_need_stream K (excD K ED) (retD K QD) (startD N_need_stream ds) G := by
  obtain ⟨ps, rfl, hl, hp, hQ⟩ := h
  unfold t_need_stream
  simp [kiD, Ki.is]
  unfold dFor
  simp only [s_iEnTD, s_dCons, s_dVar, s_dNil, gs_0]
  refine ⟨fun i δ' G' => ∃ x y, δ' = [some (.tup (ps.map dI)), x, y] ∧ G' = G, ⟨_, _, rfl, rfl⟩, fun _ _ _ _ => trivial, ?_, ?_⟩
  · rintro i x δ' G' hx ⟨y, z, rfl, rfl⟩
    obtain ⟨d, hd, rfl⟩ := enD_of hx
    rw [List.getElem?_map] at hd
    cases e : ps[i]? with
    | none => rw [e] at hd; cases hd
    | some p =>
      rw [e] at hd
      cases hd
      have hi := (List.getElem?_eq_some_iff.mp e).1
      have h9 := hp p (List.mem_of_getElem? e)
      simp
      refine ⟨fun h => by omega, fun h => ⟨_, _, _, _, rfl, rfl, ?_⟩⟩
      simp [numB, h9]
      exact Ent.refl _
  · rintro δ' G' ⟨x, y, rfl, rfl⟩
    exact ret_same hQ
theorem inD_pages (s : Sta) (p : Int) : inD (dI p) ((pagesS s).map dI) = decide (p ∈ pagesS s) := inD_ints p _
theorem pure_asked (h : dsp_asked K ds G QD ED) : t_asked K (excD K ED) (retD K QD) (startD N_asked ds) G := by
  obtain ⟨r, size, s, p, rfl, hl, hr, hh, hs, hQ⟩ := h
  have hQ := ret_same (K := K) hQ
  unfold t_asked
  simp
  refine ⟨s, rfl, hl, fun q hq => .inl ⟨_, gu_same, rfl, ?_, ?_⟩⟩
  · rw [pages_lst]; exact flat_ints _
  rw [pages_lst, inD_ints]
  obtain ⟨G2, e2, hQ⟩ := hQ
  refine ⟨fun h => ?_, fun h => ?_⟩
  · have h : p ∈ pagesS s := by simpa using h
    simp only [stepF, if_pos h] at hQ
    refine ⟨r, s, p, rfl, hl, G2, (ent_new hq).trans e2, hQ⟩
  · have h : p ∉ pagesS s := by simpa using h
    obtain ⟨s', o, e⟩ := missF_some (r := r) (s := s) (p := p) hs
    simp only [stepF, if_neg h, e] at hQ
    refine ⟨r, size, s, p, .tup [], [], rfl, .inl rfl, hl, hr, hh, ?_⟩
    rw [e]
    simp [eMis]
    exact ⟨G2, (ent_new hq).trans e2, hQ⟩
theorem runG_app (r : Str) (size : Int) (p : Int) : ∀ (ps : List Int) (s : Sta), runG r size s (ps ++ [p]) = ((runG r size s ps).1 ++ [(stepF r size (runG r size s ps).2 p).2], (stepF r size (runG r size s ps).2 p).1)
  | [], s => rfl
  | q :: ps, s => by
    rw [List.cons_append, runG, runG_app r size p ps]
    rfl
theorem runG_len (r : Str) (size : Int) : ∀ (ps : List Int) (s : Sta), (runG r size s ps).1.length = ps.length
  | [], s => rfl
  | q :: ps, s => by
    rw [runG]
    simp [runG_len r size ps]
theorem stepF_ok {r : Str} {size : Int} {s : Sta} {p : Int} (hr : r ∈ ruleIx) (hs : 1 ≤ size ∧ size ≤ 6) (w : s.1.length ≤ 6 ∧ (s.2 = 0 ∨ (r = "clock" ∧ s.2 < s.1.length))) : (stepF r size s p).1.1.length ≤ 6 ∧ ((stepF r size s p).1.2 = 0 ∨ (r = "clock" ∧ (stepF r size s p).1.2 < (stepF r size s p).1.1.length)) := by
  unfold stepF
  by_cases h : p ∈ pagesS s
  · rw [if_pos h]
    exact ⟨Nat.le_trans (hitF_len h) w.1, hitF_hand w.2⟩
  · rw [if_neg h]
    obtain ⟨s', o, e⟩ := missF_some (r := r) (s := s) (p := p) hs.1
    rw [e]
    exact missF_ok hr hs w e
theorem runG_ok {r : Str} {size : Int} (hr : r ∈ ruleIx) (hs : 1 ≤ size ∧ size ≤ 6) : ∀ (ps : List Int) {s : Sta}, (s.1.length ≤ 6 ∧ (s.2 = 0 ∨ (r = "clock" ∧ s.2 < s.1.length))) → (runG r size s ps).2.1.length ≤ 6 ∧ ((runG r size s ps).2.2 = 0 ∨ (r = "clock" ∧ (runG r size s ps).2.2 < (runG r size s ps).2.1.length))
  | [], s, w => w
  | p :: ps, s, w => runG_ok hr hs ps (stepF_ok hr hs w)
theorem hand_of {r : Str} {s : Sta} (w : s.2 = 0 ∨ (r = "clock" ∧ s.2 < s.1.length)) : Hand r s := fun h => by
  rcases w with h0 | ⟨_, h1⟩
  · cases e : s.1 with
    | nil => exact .inl rfl
    | cons a as => right; rw [h0]; simp
  · exact .inr h1
theorem take_at {α : Type} {xs : List α} {i : Nat} {x : α} (h : xs[i]? = some x) : xs.take (i + 1) = xs.take i ++ [x] := by rw [List.take_add_one, h]; rfl
theorem ans_of {q : Ans} : D.tup [dB q.1, eOpt q.2] = eAns q := rfl
theorem ints_get {ps : List Int} {i : Nat} {d : D} (h : (ps.map dI)[i]? = some d) : ∃ p, ps[i]? = some p ∧ d = dI p := by
  rw [List.getElem?_map] at h
  cases e : ps[i]? with
  | none => rw [e] at h; cases h
  | some p => rw [e] at h; exact ⟨p, rfl, (Option.some.inj h).symm⟩
theorem pure_run_by (h : dsp_run_by K ds G QD ED) : t_run_by K (excD K ED) (retD K QD) (startD N_run_by ds) G := by
  obtain ⟨r, size, ps, rfl, hl, hr, hs, hs6, hQ⟩ := h
  unfold t_run_by
  simp
  refine ⟨rfl, fun a ha => ?_⟩
  unfold dFor
  simp only [s_iSeqD, s_dVar, gs_0, gs_s]
  refine ⟨fun i δ' G' => ∃ x y z, δ' = [some (dS r), some (dI size), some (.tup (ps.map dI)), some (eSta (runG r size sta0 (ps.take i)).2), some (dR a), x, y, z] ∧ G' = gu G a (.lst ((runG r size sta0 (ps.take i)).1.map eAns)), ⟨none, none, none, rfl, by simp [runG]⟩, fun _ _ _ _ => trivial, ?_, ?_⟩
  · rintro i x δ' G' hx ⟨x5, x6, x7, rfl, rfl⟩
    obtain ⟨p, hp, rfl⟩ := ints_get hx
    have hi := (List.getElem?_eq_some_iff.mp hp).1
    obtain ⟨w1, w2⟩ := runG_ok hr ⟨hs, hs6⟩ (ps.take i) (s := sta0) ⟨by simp [sta0], .inl rfl⟩
    simp
    refine ⟨r, size, _, p, rfl, by omega, hr, hand_of w2, hs, ?_⟩
    simp
    refine ⟨.inl ⟨rfl, _, gu_same⟩, by rw [runG_len, List.length_take]; omega, ?_, by rw [take_at hp, runG_app]⟩
    rw [take_at hp, runG_app]
    show Ent K _ (gu G a (.lst (List.map eAns (_ ++ [_]))))
    rw [List.map_append]
    exact Ent.refl _
  · rintro δ' G' ⟨x5, x6, x7, rfl, rfl⟩
    rw [List.length_map, List.take_length]
    simp
    exact ret_same (hQ a ha)
theorem pure_misses_in (h : dsp_misses_in K ds G QD ED) : t_misses_in K (excD K ED) (retD K QD) (startD N_misses_in ds) G := by
  obtain ⟨a, rows, rfl, ha, hl, hQ⟩ := h
  unfold t_misses_in
  simp
  refine dlc_pure (rows.map eAns) id (fun d => match d with | .tup [.at (.bl b), _] => !b | _ => false) (fun R h => ?_) (by simp; omega) ?_ ?_
  · simp
    exact ⟨_, ha, h _ fun p acc hp => Le.new hp _ _ ha⟩
  · intro p hp x hx acc Qt Qf h1 h2
    obtain ⟨⟨b, o⟩, _, rfl⟩ := List.mem_map.mp hx
    cases b <;> simp_all [eAns, atI, ixN]
  · intro p hp
    simp [szMO]
    have e : ((rows.map eAns).filter fun d => match d with | .tup [.at (.bl b), _] => !b | _ => false).length = missesL rows := by
      rw [List.filter_map, List.length_map]
      rfl
    rw [e]
    exact ⟨_, ent_new hp, hQ⟩
theorem pure_run (h : dsp_run K ds G QD ED) : t_run K (excD K ED) (retD K QD) (startD N_run ds) G := by
  obtain ⟨r, size, ps, rfl, hl, hp, hr, hs, hs6, hQ⟩ := h
  obtain ⟨w1, w2⟩ := runG_ok hr ⟨hs, hs6⟩ ps (s := sta0) ⟨by simp [sta0], .inl rfl⟩
  simp [t_run]
  refine ⟨r, rfl, fun _ => ?_, fun h => absurd hr h⟩
  simp [t_run_4]
  refine ⟨size, rfl, fun _ => ?_, fun h => absurd ⟨hs, hs6⟩ h⟩
  simp [t_run_3]
  refine ⟨ps, rfl, hl, hp, ?_⟩
  simp [t_run_2]
  refine ⟨r, size, ps, rfl, by omega, hr, hs, hs6, fun a ha => ?_⟩
  simp [t_run_1]
  refine ⟨a, _, rfl, gu_same, by rw [runG_len]; omega, ?_⟩
  refine ⟨_, rfl, by omega, fun q hq => ?_⟩
  refine sort_ints (ps := pagesS (runG r size sta0 ps).2) (by rw [gu_same, pages_lst]) fun q2 hq2 => ?_
  simp
  have hle : Le (gu G a (.lst ((runG r size sta0 ps).1.map eAns))) (gu (gu (gu G a (.lst ((runG r size sta0 ps).1.map eAns))) q (.lst ((runG r size sta0 ps).2.1.map fun r => dI r.1))) q2 (.lst ((sortI (pagesS (runG r size sta0 ps).2)).map dI))) := (Le.new hq).trans (Le.new hq2)
  exact ⟨_, Ent.le hle, hQ a ha⟩
/-! ### a drawn stream -/
theorem pure_law_stream (h : dsp_law_stream K ds G QD ED) : t_law_stream K (excD K ED) (retD K QD) (startD N_law_stream ds) G := by
  obtain ⟨b, pages, most, rfl, hp1, hp2, hm0, hm1, hb, hQ⟩ := h
  unfold t_law_stream
  rw [s_dSeq, s_dAsg]
  refine dlc_w ?_
  simp only [s_iRng1D, s_dCons, s_dNil, s_dCall, s_dOp, s_dVar, s_dC, st_law_stream, gs_0, gs_s]
  simp only [s_dAdd]
  refine ⟨b, most + 1, rfl, by omega, by omega, hb, fun n n0 nm => ⟨by omega, fun a ha => ?_⟩⟩
  have nb : a ≠ b := fun e => by rw [e, hb] at ha; cases ha
  have hbG : ∀ m, gu G a m b = some (Wo K) := fun m => by rw [gu_ne (Ne.symm nb)]; exact hb
  refine ⟨fun i G' => ∃ l : List Int, l.length = i ∧ i ≤ most.toNat ∧ (∀ p ∈ l, 0 ≤ p ∧ p < pages) ∧ G' = gu G a (.lst (l.map dI)), ⟨[], rfl, by omega, by simp, rfl⟩, fun _ _ _ => trivial, ?_, ?_⟩
  · rintro i x G' hx ⟨l, hli, hm, hl, rfl⟩
    obtain ⟨hi, rfl⟩ := rgD_of hx
    simp
    refine ⟨b, pages, rfl, by omega, by omega, hbG _, fun p p0 pm => ?_⟩
    simp
    refine ⟨by omega, _, Ent.refl _, l ++ [p], by simp [hli], by omega, ?_, by simp⟩
    intro x hx
    rcases List.mem_append.mp hx with h | h
    · exact hl x h
    · have : x = p := by simpa using h
      omega
  rintro G' ⟨l, hll, hlm, hl, rfl⟩
  rw [rgD_len] at hll hlm
  have fin : ∀ (G0 : GH) (a : Addr), Le G G0 → G0 a = none → ∀ (l : List Int) (x4 x5 : Option D), l.length ≤ most.toNat → (∀ p ∈ l, 0 ≤ p ∧ p < pages) →
      dSeq (dFor K (iRng1D (dCons (dCall (dsp_law_drawn K) (excD K ED) (dCons (dVar 0) (dCons (dC (dI 3)) dNil))) dNil)) (gN 4) (dIfS (dTest (dOp dNe (dVar 3) (dLst dNil))) (dAsg (dCall (dsp_law_drawn K) (excD K ED) (dCons (dVar 0) (dCons (dVar 1) dNil))) (gS (dVar 3) (dCall (dsp_law_drawn K) (excD K ED) (dCons (dVar 0) (dCons (dBi dLen (dCons (dVar 3) dNil)) dNil))))) dNext))
        (dRet (dBi dTuple (dCons (dVar 3) dNil))) (retD K QD) [some (dR b), some (dI pages), some (dI most), some (dR a), x4, x5] (gu G0 a (.lst (l.map dI))) := fun G0 a hG0 ha l x4 x5 hlm hl => by
    have hbG : ∀ m, gu G0 a m b = some (Wo K) := fun m => Le.new ha _ _ (hG0 _ _ hb)
    rw [s_dSeq]
    unfold dFor
    simp only [s_iRng1D, s_dCons, s_dNil, s_dCall, s_dVar, s_dC, gs_0, gs_s]
    refine ⟨b, 3, rfl, by omega, by omega, hbG _, fun n n0 nm => ⟨by omega, fun i δ' G' => ∃ l x4 x5, δ' = [some (dR b), some (dI pages), some (dI most), some (dR a), x4, x5] ∧ l.length ≤ most.toNat ∧ (∀ p ∈ l, 0 ≤ p ∧ p < pages) ∧ G' = gu G0 a (.lst (l.map dI)), ⟨l, _, _, rfl, hlm, hl, rfl⟩, fun _ _ _ _ => trivial, ?_, ?_⟩⟩
    · rintro i x δ' G' hx ⟨l, x4, x5, rfl, hlm, hl, rfl⟩
      obtain ⟨hi, rfl⟩ := rgD_of hx
      simp
      intro q hq
      have hqa := (gu_none hq).1
      have hle : Le (gu G0 a (.lst (l.map dI))) (gu (gu G0 a (.lst (l.map dI))) q (.lst [])) := Le.new hq
      have hdl : DPy (gu (gu G0 a (.lst (l.map dI))) q (.lst [])) (dR a) (.list (pys (l.map dI))) := .lst (by rw [gu_ne (Ne.symm hqa), gu_same]) (DPys.of _ _ (ints_all l).2.2)
      refine ⟨_, hdl, _, .lst gu_same .nil, ?_, by decide +kernel, ?_, ?_⟩
      · unfold shp SeqAt.shaped
        simp only [PyData.canLay0, PyData.depth, (ints_all l).1, (ints_all l).2.1]
        decide
      · intro he
        cases l with
        | nil => simp [pys, PyData.eqv, PyData.eqvAll] at he
        | cons p0 l =>
          refine ⟨b, pages, rfl, by omega, by omega, hle _ _ (hbG _), fun p h0 hp => ?_⟩
          simp
          have hga : (gu (gu G0 a (.lst ((p0 :: l).map dI))) q (.lst [])) a = some (.lst ((p0 :: l).map dI)) := by rw [gu_ne (Ne.symm hqa), gu_same]
          have hga2 := hga
          simp at hga
          simp only [hga]
          have hlp : (p0 :: l).length ≤ 1000 := by omega
          refine ⟨(p0 :: l).length, by simp [szMO], b, _, rfl, by simp, by omega, hle _ _ (hbG _), fun k k0 kl => ?_⟩
          obtain ⟨kn, rfl⟩ := Int.eq_ofNat_of_zero_le k0
          have hkn : kn < (p0 :: l).length := by omega
          refine .inl ⟨_, hga2, kn, rfl, kn, ?_, gu G0 a (.lst (((p0 :: l).set kn p).map dI)), ?_, (p0 :: l).set kn p, by simpa using hlm, ?_, rfl⟩
          · unfold ixN
            rw [if_pos (by omega), if_pos (by rw [List.length_map]; omega)]
            simp
          · rw [gu_comm hqa, gu_gu, List.map_set]
            refine Ent.le (Le.new ?_)
            rw [gu_ne hqa]
            exact (gu_none hq).2
          · intro x hx
            rcases List.mem_or_eq_of_mem_set hx with h | h
            · exact hl x h
            · rw [h]; exact ⟨h0, hp⟩
      · intro he
        exact ⟨_, Ent.le hle, l, hlm, hl, rfl⟩
    · rintro δ' G' ⟨l, x4, x5, rfl, hlm, hl, rfl⟩
      simp
      exact ⟨G, (ent_new ha).trans (Ent.le hG0), hQ l hlm hl⟩
  simp
  refine ⟨b, 3, rfl, by omega, by omega, hbG _, fun k k0 k3 => ?_⟩
  simp
  refine ⟨fun h3 => ?_, fun h3 => ?_⟩
  · refine ⟨b, pages, rfl, by omega, by omega, hbG _, fun t t0 tm => ?_⟩
    simp
    refine dlc_pure (rgD 0 l.length) (fun d => match d with | .at (.int i) => dI (i % (if pages < 2 + t then pages else 2 + t)) | d => d) (fun _ => true) (fun R h => ?_) (by rw [rgD_len, zL_val]; omega) ?_ ?_
    · simp [szMO]
      exact ⟨by omega, h _ fun _ _ _ => trivial⟩
    · intro p hp x hx acc Qt Qf h1 h2
      obtain ⟨i, hi⟩ := List.mem_iff_getElem?.mp hx
      obtain ⟨hil, rfl⟩ := rgD_of hi
      simp at h1 ⊢
      refine ⟨?_, h1⟩
      split <;> omega
    · intro p hp
      have el : ((rgD 0 l.length).filter fun _ => true).map (fun d => match d with | .at (.int i) => dI (i % (if pages < 2 + t then pages else 2 + t)) | d => d) = ((List.range l.length).map fun (i : Nat) => ((i : Int) % (if pages < 2 + t then pages else 2 + t))).map dI := by
        rw [filt_all]
        unfold rgD
        rw [List.map_map, List.map_map]
        refine List.map_congr_left fun i _ => ?_
        simp
      rw [el]
      have pa := gu_none hp
      refine fin (gu G a (.lst (l.map dI))) p (Le.new ha) hp _ _ _ (by simp; omega) ?_
      intro x hx
      obtain ⟨i, _, rfl⟩ := List.mem_map.mp hx
      split
      · exact ⟨Int.emod_nonneg _ (by omega), Int.emod_lt_of_pos _ (by omega)⟩
      · refine ⟨Int.emod_nonneg _ (by omega), ?_⟩
        have := Int.emod_lt_of_pos (i : Int) (show 0 < 2 + t by omega)
        omega
  · exact fin G a (Le.refl _) ha l _ _ (by omega) hl
end
end Cb

set_option Elab.async false
set_option linter.all false
set_option maxRecDepth 100000
set_option maxHeartbeats 4000000
/-! Comparisons of plain data. -/
namespace Cb
open PySem PySem.Spec PyProof.Rows L2 Dl
theorem eqv_ints : ∀ (ps qs : List Int), PyData.eqvAll (pys (ps.map dI)) (pys (qs.map dI)) = decide (ps = qs)
  | [], [] => rfl
  | [], _ :: _ => rfl
  | _ :: _, [] => rfl
  | p :: ps, q :: qs => by
    have ih := eqv_ints ps qs
    show (PyData.eqv (.int p) (.int q) && PyData.eqvAll (pys (ps.map dI)) (pys (qs.map dI))) = _
    rw [ih]
    show ((p == q) && _) = _
    by_cases h : p = q
    · subst h; simp
    · simp [h]
theorem shp_listI (l : List Int) : shp (.list (pys (l.map dI))) = true := by
  obtain ⟨h1, h2, h3⟩ := ints_all l
  unfold shp SeqAt.shaped
  simp only [PyData.canLay0, PyData.depth, h1, h2]
  decide
theorem shp_tupI (l : List Int) : shp (.tuple (pys (l.map dI))) = true := by
  obtain ⟨h1, h2, h3⟩ := ints_all l
  unfold shp SeqAt.shaped
  simp only [PyData.canLay0, PyData.depth, h1, h2]
  decide
section
variable {K : PySem.W.Frag} {G : GH} {Q : DK} {f : Bool → Bool} {a b : Addr} {ps qs : List Int}
theorem deq_tt (q : Q (dB (f (decide (ps = qs)))) G) : dEqF f (.tup (ps.map dI)) (.tup (qs.map dI)) G Q := by
  have e : PyData.eqv (.tuple (pys (ps.map dI))) (.tuple (pys (qs.map dI))) = decide (ps = qs) := eqv_ints ps qs
  rw [← e] at q
  exact ⟨_, _, .tup (DPys.of _ _ (ints_all ps).2.2), .tup (DPys.of _ _ (ints_all qs).2.2), shp_tupI ps, shp_tupI qs, q⟩
theorem deq_ll (ha : G a = some (.lst (ps.map dI))) (hb : G b = some (.lst (qs.map dI))) (q : Q (dB (f (decide (ps = qs)))) G) : dEqF f (dR a) (dR b) G Q := by
  have e : PyData.eqv (.list (pys (ps.map dI))) (.list (pys (qs.map dI))) = decide (ps = qs) := eqv_ints ps qs
  rw [← e] at q
  exact ⟨_, _, .lst ha (DPys.of _ _ (ints_all ps).2.2), .lst hb (DPys.of _ _ (ints_all qs).2.2), shp_listI ps, shp_listI qs, q⟩
theorem deq_nil (ha : G a = some (.lst (ps.map dI))) (hb : G b = some (.lst [])) (q : Q (dB (f (decide (ps = [])))) G) : dEqF f (dR a) (dR b) G Q := deq_ll ha (qs := []) hb q
theorem deq_nilT (q : Q (dB (f (decide (ps = [])))) G) : dEqF f (.tup (ps.map dI)) (.tup []) G Q := deq_tt (qs := []) q
end
theorem cut_fromN (xs : List D) (i : Nat) : cutD xs (some (i : Int)) none = xs.drop i := by
  unfold Dl.cutD
  rw [HT.sIx_none, HT.sIx_nat]
  by_cases h : i ≤ xs.length
  · rw [Nat.min_eq_left h]
    exact List.take_of_length_le (by rw [List.length_drop]; exact Nat.le_refl _)
  · rw [Nat.min_eq_right (by omega), List.drop_of_length_le (Nat.le_refl _), List.drop_of_length_le (by omega), List.take_nil]
/-- a comprehension over a list that was just made -/
theorem dlc_pureL {K : PySem.W.Frag} {ti : TDI} {g : TDG} {tt : TDT} {te : TDE} {vs : List Nat} {δ : DSt} {G : GH} {Q : DK} (xs : List D) (f : D → D) (c : D → Bool)
    (hti : ∀ R : List D → (GH → Prop) → GH → Prop, (∀ q, G q = none → ∀ stay : GH → Prop, (∀ p acc, gu G q (.lst xs) p = none → stay (gu (gu G q (.lst xs)) p (.lst acc))) → R xs stay (gu G q (.lst xs))) → ti δ G R) (hz : xs.length ≤ zL)
    (step : ∀ G' : GH, ∀ p, G' p = none → ∀ x ∈ xs, ∀ (acc : List D) (Qt : D → GH → Prop) (Qf : GH → Prop), (c x = true → Qt (f x) (gu G' p (.lst acc))) → (c x = false → Qf (gu G' p (.lst acc))) → g x (wsAll δ vs) (gu G' p (.lst acc)) fun δ1 G2 => tt δ1 G2 fun b G3 => (b = true → te δ1 G3 Qt) ∧ (b = false → Qf G3))
    (h : ∀ q, G q = none → ∀ p, gu G q (.lst xs) p = none → Q (dR p) (gu (gu G q (.lst xs)) p (.lst ((xs.filter c).map f)))) : dLc K ti g tt te vs δ G Q :=
  hti _ fun q hq stay hs p hp => lc_pure f c hz (fun acc => hs p acc hp) (step _ p hp) (h q hq p hp)
/-! two numbers -/
theorem two_at {x y : D} {k : Int} (h0 : 0 ≤ k) (h2 : k < 2) {P : D → Prop} (h : ∀ d, (d = x ∨ d = y) → P d) : ∃ d, atI [x, y] k = some d ∧ P d := by
  have : k = 0 ∨ k = 1 := by omega
  rcases this with rfl | rfl
  · exact ⟨x, rfl, h x (.inl rfl)⟩
  · exact ⟨y, rfl, h y (.inr rfl)⟩
end Cb

set_option Elab.async false
set_option linter.all false
set_option maxRecDepth 100000
set_option maxHeartbeats 4000000
/-! What an ask does to the pages that are held. -/
namespace Cb
open PySem PySem.Spec PyProof.Rows L2 Dl
theorem clock_pages (ps : List Int) : ∀ n rows h, (clockRun ps n rows h).1.map (·.1) = rows.map (·.1)
  | 0, rows, h => rfl
  | n + 1, rows, h => by
    unfold clockRun
    split
    · rfl
    · rename_i a b e
      split
      · rw [clock_pages ps n]
        split
        · rfl
        · rw [List.map_set]
          refine List.ext_getElem? fun j => ?_
          rw [List.getElem?_set]
          split
          · rename_i e2
            subst e2
            rw [List.getElem?_map, e]
            split
            · rfl
            · rename_i hl
              rw [List.length_map] at hl
              exact absurd (List.getElem?_eq_some_iff.mp e).1 hl
          · rfl
      · rfl
theorem out_pages (rows : List Row) (i : Nat) : (outF rows i).map (·.1) = (rows.map (·.1)).eraseIdx i := by
  unfold outF
  rw [List.map_append, List.map_take, List.map_drop, List.eraseIdx_eq_take_drop_succ]
theorem hit_pages {r : Str} {s : Sta} {p : Int} (hn : (pagesS s).Nodup) (h : p ∈ pagesS s) : (pagesS (hitF r s p)).Perm (pagesS s) := by
  unfold hitF pagesS
  split
  · simp only [List.map_append, List.map_cons, List.map_nil]
    have e : (s.1.filter fun x => decide (x.1 ≠ p)).map (·.1) = (pagesS s).filter fun x => decide (x ≠ p) := by
      unfold pagesS
      rw [List.filter_map]
      rfl
    rw [e]
    have e2 : (pagesS s).filter (fun x => decide (x ≠ p)) = (pagesS s).erase p := by
      rw [hn.erase_eq_filter]
      refine List.filter_congr fun x _ => ?_
      by_cases e3 : x = p <;> simp [e3]
    rw [e2]
    exact (List.perm_append_comm.trans (List.perm_cons_erase h).symm)
  · split
    · simp only [List.map_map]
      exact List.Perm.refl _
    · split
      · simp only [List.map_map]
        exact List.Perm.refl _
      · exact List.Perm.refl _
/-- who goes: the state's pages without it, and the page that comes -/
theorem miss_full {r : Str} {size : Int} {s : Sta} {p : Int} {ps : List Int} {s' : Sta} {o : Option Int} (hr : r ∈ ruleIx) (hh : Hand r s) (hn : (pagesS s).Nodup) (hl : ¬ (s.1.length : Int) < size) (h : missF r size s p ps = some (s', o)) :
    ∃ i g, (pagesS s)[i]? = some g ∧ o = some g ∧ (pagesS s').Perm (p :: (pagesS s).eraseIdx i) ∧ (r ≠ "clock" → pagesS s' = (pagesS s).eraseIdx i ++ [p]) := by
  unfold missF at h
  rw [if_neg hl] at h
  cases hL : loserF r s ps with
  | none => rw [hL] at h; cases h
  | some x =>
    obtain ⟨i, rows, hand⟩ := x
    obtain ⟨l1, l2, l3, l4⟩ := loserF_lt hr hh hL
    have l1 : i < rows.length := l1
    have hp : rows.map (·.1) = pagesS s := by
      by_cases hc : r = "clock"
      · have e := (l4 hc).1
        have : rows = (clockRun ps (2 * s.1.length) s.1 s.2).1 := by rw [← e]
        rw [this]
        exact clock_pages _ _ _ _
      · have e := (l3 hc).1
        have : rows = s.1 := by rw [← e]
        rw [this]; rfl
    have hg : (pagesS s)[i]? = some (rwA rows i).1 := by
      rw [← hp, List.getElem?_map, rw_at l1]; rfl
    rw [hL] at h
    simp only at h
    refine ⟨i, (rwA rows i).1, hg, ?_⟩
    by_cases hc : r = "clock"
    · rw [if_pos hc] at h
      cases h
      refine ⟨rfl, ?_, fun hn => absurd hc hn⟩
      show List.Perm (List.map (fun x : Row => x.1) (rows.take i ++ [(p, 1)] ++ rows.drop (i + 1))) _
      rw [List.map_append, List.map_append, List.map_take, List.map_drop, hp, List.eraseIdx_eq_take_drop_succ, List.append_assoc]
      exact List.perm_middle
    · rw [if_neg hc] at h
      cases h
      refine ⟨rfl, ?_, fun _ => ?_⟩
      · show List.Perm (List.map (fun x : Row => x.1) (outF rows i ++ [(p, markF r)])) _
        rw [List.map_append, out_pages, hp]
        exact List.perm_append_comm
      · show List.map (fun x : Row => x.1) (outF rows i ++ [(p, markF r)]) = _
        rw [List.map_append, out_pages, hp]
        rfl
theorem erase_at {l : List Int} {i : Nat} {g : Int} (hn : l.Nodup) (h : l[i]? = some g) : l.eraseIdx i = l.erase g := by
  obtain ⟨hi, e⟩ := List.getElem?_eq_some_iff.mp h
  subst e
  induction l generalizing i with
  | nil => simp at hi
  | cons a l ih =>
    rw [List.nodup_cons] at hn
    cases i with
    | zero => simp
    | succ i =>
      have hi' : i < l.length := by simpa using hi
      rw [List.eraseIdx_cons_succ, List.getElem_cons_succ, List.erase_cons_tail, ih (i := i) hn.2 hi' (List.getElem?_eq_getElem hi')]
      simp only [beq_iff_eq]
      intro e2
      exact hn.1 (by rw [e2]; exact List.getElem_mem hi')
/-- what an ask does -/
structure Step (r : Str) (size : Int) (s : Sta) (p : Int) (s' : Sta) (q : Ans) : Prop where
  ok : SOk r size s'
  hit : p ∈ pagesS s → q = (true, none) ∧ (pagesS s').Perm (pagesS s)
  room : p ∉ pagesS s → (s.1.length : Int) < size → q = (false, none) ∧ pagesS s' = pagesS s ++ [p]
  full : p ∉ pagesS s → ¬ (s.1.length : Int) < size → ∃ g ∈ pagesS s, q = (false, some g) ∧ (pagesS s').Perm (p :: (pagesS s).erase g) ∧ (r ≠ "clock" → pagesS s' = (pagesS s).erase g ++ [p])
theorem step_ok {r : Str} {size : Int} {s : Sta} {p : Int} (hr : r ∈ ruleIx) (hs : 1 ≤ size ∧ size ≤ 6) (w : SOk r size s) : Step r size s p (stepF r size s p).1 (stepF r size s p).2 := by
  have hlen : s.1.length ≤ 6 := by have := w.len; omega
  obtain ⟨k1, k2⟩ := stepF_ok (p := p) hr hs ⟨hlen, w.hand⟩
  have pl : ∀ s : Sta, s.1.length = (pagesS s).length := fun s => by simp [pagesS]
  by_cases h : p ∈ pagesS s
  · have e : stepF r size s p = (hitF r s p, true, none) := by unfold stepF; rw [if_pos h]
    rw [e] at k1 k2 ⊢
    have hp := hit_pages (r := r) w.nd h
    refine ⟨⟨?_, k2, hp.nodup_iff.mpr w.nd⟩, fun _ => ⟨rfl, hp⟩, fun h2 => absurd h h2, fun h2 => absurd h h2⟩
    rw [pl, hp.length_eq, ← pl]
    exact w.len
  · obtain ⟨s', o, em⟩ := missF_some (r := r) (s := s) (p := p) hs.1
    have e : stepF r size s p = (s', false, o) := by unfold stepF; rw [if_neg h, em]
    rw [e] at k1 k2 ⊢
    by_cases hl : (s.1.length : Int) < size
    · have em2 := em
      unfold missF at em2
      rw [if_pos hl] at em2
      cases em2
      have hp : pagesS (s.1 ++ [(p, markF r)], s.2) = pagesS s ++ [p] := by simp [pagesS]
      refine ⟨⟨?_, k2, ?_⟩, fun h2 => absurd h2 h, fun _ _ => ⟨rfl, hp⟩, fun _ h3 => absurd hl h3⟩
      · simp; omega
      · rw [hp, List.nodup_append]
        exact ⟨w.nd, by simp, fun x hx y hy => by
          have : y = p := by simpa using hy
          subst this
          rintro rfl
          exact h hx⟩
    · obtain ⟨i, g, hg, ho, hp, hq⟩ := miss_full hr w.handOk w.nd hl em
      have hgm : g ∈ pagesS s := List.mem_of_getElem? hg
      rw [erase_at w.nd hg] at hp hq
      have hnd : (p :: (pagesS s).erase g).Nodup := by
        rw [List.nodup_cons]
        exact ⟨fun h2 => h (List.mem_of_mem_erase h2), w.nd.erase g⟩
      refine ⟨⟨?_, k2, hp.nodup_iff.mpr hnd⟩, fun h2 => absurd h2 h, fun _ h3 => absurd h3 hl, fun _ _ => ⟨g, hgm, by rw [ho], hp, hq⟩⟩
      rw [pl, hp.length_eq, List.length_cons, List.length_erase_of_mem hgm]
      have := List.length_pos_of_mem hgm
      have := w.len
      rw [pl] at this
      show ((_ : Nat) : Int) ≤ size
      omega
theorem Step.sub {r : Str} {size : Int} {s s' : Sta} {p : Int} {q : Ans} (t : Step r size s p s' q) : ∀ x ∈ pagesS s', x = p ∨ x ∈ pagesS s := fun x hx => by
  by_cases h : p ∈ pagesS s
  · exact .inr ((t.hit h).2.mem_iff.mp hx)
  · by_cases hl : (s.1.length : Int) < size
    · rw [(t.room h hl).2] at hx
      rcases List.mem_append.mp hx with h | h
      · exact .inr h
      · exact .inl (by simpa using h)
    · obtain ⟨g, hg, _, hp, _⟩ := t.full h hl
      rcases List.mem_cons.mp (hp.mem_iff.mp hx) with h | h
      · exact .inl h
      · exact .inr (List.mem_of_mem_erase h)
theorem run_ok {r : Str} {size : Int} (hr : r ∈ ruleIx) (hs : 1 ≤ size ∧ size ≤ 6) : ∀ (ps : List Int) {s : Sta}, SOk r size s → SOk r size (runG r size s ps).2 ∧ ∀ x ∈ pagesS (runG r size s ps).2, x ∈ ps ∨ x ∈ pagesS s
  | [], s, w => ⟨w, fun x hx => .inr hx⟩
  | p :: ps, s, w => by
    have t := step_ok (p := p) hr hs w
    obtain ⟨h1, h2⟩ := run_ok hr hs ps t.ok
    refine ⟨h1, fun x hx => ?_⟩
    rcases h2 x hx with h | h
    · exact .inl (List.mem_cons_of_mem _ h)
    · rcases t.sub x h with rfl | h
      · exact .inl List.mem_cons_self
      · exact .inr h
theorem misses_app (rows : List Ans) (q : Ans) : missesL (rows ++ [q]) = missesL rows + if q.1 = true then 0 else 1 := by
  unfold missesL
  rw [List.filter_append, List.length_append]
  cases q with
  | mk b o => cases b <;> simp
/-- a cache without pins asked is a step -/
theorem ask_step {c : CM} {p : Int} (hk : c.kept = []) (hs : 1 ≤ c.size) : askF c p = some ({ c with st := (stepF c.rule c.size c.st p).1, asks := c.asks + 1, misses := c.misses + if (stepF c.rule c.size c.st p).2.1 = true then 0 else 1 }, (stepF c.rule c.size c.st p).2.1, (stepF c.rule c.size c.st p).2.2) := by
  unfold askF stepF
  have e : c.pages = pagesS c.st := rfl
  rw [e]
  by_cases h : p ∈ pagesS c.st
  · rw [if_pos h, if_pos h]
    simp
  · rw [if_neg h, if_neg h, hk]
    obtain ⟨s', o, em⟩ := missF_some (r := c.rule) (s := c.st) (p := p) hs
    rw [em]
    simp [hk]
end Cb

set_option Elab.async false
set_option linter.all false
set_option maxRecDepth 100000
set_option maxHeartbeats 4000000
/-! What the program's defs compute: the best that knows all: the model. -/
namespace Cb
open PySem PySem.Spec PyProof.Rows L2 Dl
/-! ### what may be held, at what least cost -/
abbrev Wk := List (List Int × Int)
def nkI (l : List Int) : NKey := .tup (l.map .num)
theorem kDs_num : ∀ l : List Int, kDs (l.map .num) = l.map dI
  | [] => rfl
  | i :: l => by rw [List.map_cons, kDs, kDs_num l]; rfl
theorem kD_nkI (l : List Int) : kD (nkI l) = .tup (l.map dI) := by
  unfold nkI
  rw [kD, kDs_num]
theorem num_nk : ∀ l : List Int, numKs (l.map .num) = true
  | [] => rfl
  | i :: l => by rw [List.map_cons, numKs, num_nk l]; rfl
theorem dep_nk : ∀ l : List Int, NestedKey.depthAll (l.map .num) = 0
  | [] => rfl
  | i :: l => by rw [List.map_cons, NestedKey.depthAll, dep_nk l]; rfl
theorem ok_nkI (l : List Int) : okK (nkI l) = true := by
  unfold okK nkI
  rw [numK, num_nk, NestedKey.depth, dep_nk]
  rfl
theorem nkI_inj {l m : List Int} (h : nkI l = nkI m) : l = m := by
  unfold nkI at h
  injection h with h
  exact List.map_inj_right (fun a b e => by injection e) |>.mp h
theorem nkI_eq {l m : List Int} : (nkI l = nkI m) ↔ l = m := ⟨nkI_inj, fun h => by rw [h]⟩
def wkD (w : Wk) : List (NKey × D) := w.map fun p => (nkI p.1, dI p.2)
def valW (w : Wk) (l : List Int) : Option Int := (w.find? fun p => decide (p.1 = l)).map (·.2)
def putW (w : Wk) (l : List Int) (c : Int) : Wk := if (w.any fun p => decide (p.1 = l)) = true then w.map fun p => if p.1 = l then (p.1, c) else p else w ++ [(l, c)]
theorem val_wkD (w : Wk) (l : List Int) : valD (wkD w) (nkI l) = (valW w l).map dI := by
  unfold valD valW wkD
  rw [List.find?_map]
  have e : ((fun kv : NKey × D => decide (kv.1 = nkI l)) ∘ fun p : List Int × Int => (nkI p.1, dI p.2)) = fun p => decide (p.1 = l) := by
    funext p
    simp [nkI_eq]
  rw [e]
  cases w.find? fun p => decide (p.1 = l) with
  | none => rfl
  | some p => rfl
theorem put_wkD (w : Wk) (l : List Int) (c : Int) : putD (wkD w) (nkI l) (dI c) = wkD (putW w l c) := by
  unfold putD putW
  have e : ((wkD w).any fun kv => decide (kv.1 = nkI l)) = w.any fun p => decide (p.1 = l) := by
    unfold wkD
    rw [List.any_map]
    congr 1
    funext p
    simp [nkI_eq]
  rw [e]
  split
  · unfold wkD
    rw [List.map_map, List.map_map]
    refine List.map_congr_left fun p _ => ?_
    simp only [Function.comp_apply]
    by_cases h : p.1 = l
    · rw [if_pos (by rw [h]), if_pos h]
    · rw [if_neg (fun z => h (nkI_inj z)), if_neg h]
  · unfold wkD
    rw [List.map_append]
    rfl
def minI (a b : Int) : Int := if b < a then b else a
/-- found[l] = min(found.get(l, c), c) -/
def putM (w : Wk) (l : List Int) (c : Int) : Wk := putW w l (minI ((valW w l).getD c) c)
def movesF (size : Int) (held : List Int) (page : Int) : List (List Int) :=
  if (held.length : Int) < size then [sortI (held ++ [page])] else held.map fun gone => sortI (held.filter (fun x => decide (x ≠ gone)) ++ [page])
def putMs (w : Wk) (ls : List (List Int)) (c : Int) : Wk := ls.foldl (fun f l => putM f l c) w
def behind1 (size : Int) (page cost : Int) (f : Wk) (p : List Int × Int) : Wk := if page ∈ p.1 then putM f p.1 p.2 else putMs f (movesF size p.1 page) (p.2 + cost)
def behindF (size : Int) (w : Wk) (page cost : Int) : Wk := w.foldl (behind1 size page cost) []
abbrev Costs := Option (List Int)
def costD : Costs → D
  | none => dN
  | some l => .tup (l.map dI)
def costF (cs : Costs) (p : Int) : Int := match cs with
  | none => 1
  | some l => l[p.toNat]?.getD 1
def CostOk (cs : Costs) : Prop := ∀ l, cs = some l → l.length = 10 ∧ ∀ c ∈ l, 1 ≤ c ∧ c ≤ 99
def worksF (size : Int) (cs : Costs) (ps : List Int) : Wk := ps.foldl (fun w p => behindF size w p (costF cs p)) [([], 0)]
/-! ### right states -/
/-- strictly rising -/
def Rise (l : List Int) : Prop := l.Pairwise (· < ·)
structure HOk9 (size : Int) (l : List Int) : Prop where
  rise : Rise l
  p9 : ∀ x ∈ l, 0 ≤ x ∧ x ≤ 9
  len : (l.length : Int) ≤ size
def subs : Nat → Nat → List (List Int)
  | _, 0 => [[]]
  | k, n + 1 => subs (k + 1) n ++ (subs (k + 1) n).map fun l => (k : Int) :: l
theorem subs_len : ∀ (n k : Nat), (subs k n).length = 2 ^ n
  | 0, k => rfl
  | n + 1, k => by rw [subs, List.length_append, List.length_map, subs_len n]; omega
theorem subs_mem : ∀ (n k : Nat) (l : List Int), Rise l → (∀ x ∈ l, (k : Int) ≤ x ∧ x < ((k + n : Nat) : Int)) → l ∈ subs k n
  | 0, k, l, _, h => by
    cases l with
    | nil => simp [subs]
    | cons a l => have := h a (by simp); omega
  | n + 1, k, l, hr, h => by
    rw [subs, List.mem_append]
    cases l with
    | nil => exact .inl (subs_mem n (k + 1) [] hr (by simp))
    | cons a l =>
      have ha := h a (by simp)
      have hp := List.pairwise_cons.mp hr
      by_cases e : a = k
      · refine .inr (List.mem_map.mpr ⟨l, subs_mem n (k + 1) l hp.2 (fun x hx => ?_), by rw [e]⟩)
        have := hp.1 x hx
        have := h x (by simp [hx])
        omega
      · refine .inl (subs_mem n (k + 1) (a :: l) hr (fun x hx => ?_))
        rcases List.mem_cons.mp hx with rfl | hx
        · omega
        · have := hp.1 x hx
          have := h x (by simp [hx])
          omega
structure WkOk (size : Int) (w : Wk) : Prop where
  nd : (w.map (·.1)).Nodup
  ok : ∀ p ∈ w, HOk9 size p.1
theorem WkOk.len {size : Int} {w : Wk} (h : WkOk size w) : w.length ≤ 1024 := by
  have := List.Nodup.length_le_of_subset h.nd (l₂ := subs 0 10) fun l hl => by
    obtain ⟨p, hp, rfl⟩ := List.mem_map.mp hl
    have o := h.ok p hp
    exact subs_mem 10 0 _ o.rise fun x hx => by have := o.p9 x hx; omega
  rw [List.length_map, subs_len] at this
  exact this
theorem valW_mem {w : Wk} {l : List Int} {c : Int} (h : valW w l = some c) : (l, c) ∈ w := by
  unfold valW at h
  cases e : w.find? fun p => decide (p.1 = l) with
  | none => rw [e] at h; cases h
  | some p =>
    rw [e] at h
    have h1 := List.find?_some e
    have h1 : p.1 = l := by simpa using h1
    have h2 : p.2 = c := Option.some.inj h
    rw [← h1, ← h2]
    exact List.mem_of_find?_eq_some e
theorem mem_valW {w : Wk} (hn : (w.map (·.1)).Nodup) {l : List Int} {c : Int} (h : (l, c) ∈ w) : valW w l = some c := by
  unfold valW
  induction w with
  | nil => cases h
  | cons p w ih =>
    rw [List.map_cons, List.nodup_cons] at hn
    rcases List.mem_cons.mp h with rfl | h
    · rw [List.find?_cons_of_pos (by simp)]
      rfl
    · have : p.1 ≠ l := fun e => hn.1 (by rw [e]; exact List.mem_map.mpr ⟨_, h, rfl⟩)
      rw [List.find?_cons_of_neg (by simpa using this)]
      exact ih hn.2 h
theorem putW_nd {w : Wk} {l : List Int} {c : Int} (h : (w.map (·.1)).Nodup) : ((putW w l c).map (·.1)).Nodup := by
  unfold putW
  split
  · rw [List.map_map]
    have : (w.map ((·.1) ∘ fun p => if p.1 = l then (p.1, c) else p)) = w.map (·.1) := by
      refine List.map_congr_left fun x _ => ?_
      simp only [Function.comp_apply]
      split <;> rfl
    rw [this]
    exact h
  · rename_i hn
    rw [List.map_append, List.nodup_append]
    refine ⟨h, by simp, fun x hx y hy => ?_⟩
    have hy : y = l := by simpa using hy
    rintro rfl
    subst hy
    apply hn
    obtain ⟨p, hp, e⟩ := List.mem_map.mp hx
    rw [List.any_eq_true]
    exact ⟨p, hp, by simpa using e⟩
theorem putW_mem {w : Wk} {l : List Int} {c : Int} {q : List Int × Int} (h : q ∈ putW w l c) : q = (l, c) ∨ (q ∈ w ∧ q.1 ≠ l) := by
  unfold putW at h
  split at h
  · obtain ⟨p, hp, e⟩ := List.mem_map.mp h
    by_cases e2 : p.1 = l
    · rw [if_pos e2] at e
      exact .inl (by rw [← e, e2])
    · rw [if_neg e2] at e
      exact .inr ⟨e ▸ hp, e ▸ e2⟩
  · rename_i hn
    rcases List.mem_append.mp h with h | h
    · refine .inr ⟨h, fun e => hn ?_⟩
      rw [List.any_eq_true]
      exact ⟨q, h, by simpa using e⟩
    · exact .inl (by simpa using h)
theorem putW_val {w : Wk} {l m : List Int} {c : Int} : valW (putW w l c) m = if m = l then some c else valW w m := by
  unfold putW valW
  by_cases ha : (w.any fun p => decide (p.1 = l)) = true
  · rw [if_pos ha, List.find?_map]
    have e : ((fun p : List Int × Int => decide (p.1 = m)) ∘ fun p => if p.1 = l then (p.1, c) else p) = fun p => decide (p.1 = m) := by
      funext p
      simp only [Function.comp_apply]
      split <;> rfl
    rw [e]
    by_cases hm : m = l
    · subst hm
      rw [if_pos rfl]
      obtain ⟨p, hp, e2⟩ := List.any_eq_true.mp ha
      cases e3 : w.find? fun p => decide (p.1 = m) with
      | none =>
        rw [List.find?_eq_none] at e3
        exact absurd e2 (e3 p hp)
      | some q =>
        have := List.find?_some e3
        have h1 : q.1 = m := by simpa using this
        simp [h1]
    · rw [if_neg hm]
      cases e3 : w.find? fun p => decide (p.1 = m) with
      | none => rfl
      | some q =>
        have := List.find?_some e3
        have h1 : q.1 = m := by simpa using this
        have : ¬ q.1 = l := fun z => hm (h1.symm.trans z)
        simp [this]
  · rw [if_neg ha, List.find?_append]
    by_cases hm : m = l
    · subst hm
      rw [if_pos rfl]
      have : w.find? (fun p => decide (p.1 = m)) = none := by
        rw [List.find?_eq_none]
        intro p hp e
        exact ha (List.any_eq_true.mpr ⟨p, hp, e⟩)
      rw [this]
      simp
    · rw [if_neg hm]
      have : [(l, c)].find? (fun p : List Int × Int => decide (p.1 = m)) = none := by
        rw [List.find?_eq_none]
        intro p hp
        have : p = (l, c) := by simpa using hp
        subst this
        simpa using Ne.symm hm
      rw [this]
      simp
/-! the values kept are the least that were put -/
theorem putM_val {w : Wk} {l m : List Int} {c : Int} : valW (putM w l c) m = if m = l then some (minI ((valW w l).getD c) c) else valW w m := putW_val
theorem minI_le {a b : Int} : minI a b ≤ a ∧ minI a b ≤ b ∧ (minI a b = a ∨ minI a b = b) := by
  unfold minI
  split
  · exact ⟨by omega, by omega, .inr rfl⟩
  · exact ⟨by omega, by omega, .inl rfl⟩
theorem putMs_nd {ls : List (List Int)} {c : Int} : ∀ {w : Wk}, (w.map (·.1)).Nodup → ((putMs w ls c).map (·.1)).Nodup := by
  induction ls with
  | nil => exact fun h => h
  | cons l ls ih => exact fun h => ih (w := putM _ l c) (putW_nd h)
theorem behind1_nd {size page cost : Int} {f : Wk} {p : List Int × Int} (h : (f.map (·.1)).Nodup) : ((behind1 size page cost f p).map (·.1)).Nodup := by
  unfold behind1
  split
  · exact putW_nd h
  · exact putMs_nd h
/-- where an entry may lead -/
def Leads (size page cost : Int) (p q : List Int × Int) : Prop := (page ∈ p.1 ∧ q = p) ∨ (page ∉ p.1 ∧ q.1 ∈ movesF size p.1 page ∧ q.2 = p.2 + cost)
/-- f is the least of what S leads to -/
structure Least (S : List Int × Int → Prop) (f : Wk) : Prop where
  nd : (f.map (·.1)).Nodup
  from_ : ∀ q ∈ f, S q
  le : ∀ q, S q → ∃ c, (q.1, c) ∈ f ∧ c ≤ q.2
theorem least_putM {S : List Int × Int → Prop} {f : Wk} {l : List Int} {c : Int} (h : Least S f) : Least (fun q => S q ∨ q = (l, c)) (putM f l c) := by
  refine ⟨putW_nd h.nd, fun q hq => ?_, fun q hq => ?_⟩
  · rcases putW_mem hq with rfl | ⟨h1, _⟩
    · cases e : valW f l with
      | none =>
        right
        show (l, minI c c) = (l, c)
        unfold minI
        simp
      | some d =>
        show S (l, minI d c) ∨ (l, minI d c) = (l, c)
        rcases (minI_le (a := d) (b := c)).2.2 with e2 | e2
        · rw [e2]
          exact .inl (h.from_ _ (valW_mem e))
        · rw [e2]
          exact .inr rfl
    · exact .inl (h.from_ q h1)
  · have key : ∀ m d, valW (putM f l c) m = some d → (m, d) ∈ putM f l c := fun m d e => valW_mem e
    by_cases hm : q.1 = l
    · refine ⟨minI ((valW f l).getD c) c, key _ _ (by rw [putM_val, if_pos hm]), ?_⟩
      rcases hq with hq | hq
      · obtain ⟨d, h1, h2⟩ := h.le q hq
        rw [hm] at h1
        rw [mem_valW h.nd h1]
        have := (minI_le (a := d) (b := c)).1
        show minI d c ≤ q.2
        omega
      · rw [hq]
        exact minI_le.2.1
    · rcases hq with hq | hq
      · obtain ⟨d, h1, h2⟩ := h.le q hq
        refine ⟨d, key _ _ ?_, h2⟩
        rw [putM_val, if_neg hm]
        exact mem_valW h.nd h1
      · rw [hq] at hm
        exact absurd rfl hm
theorem least_imp {S T : List Int × Int → Prop} {f : Wk} (h : Least S f) (e : ∀ q, S q ↔ T q) : Least T f := ⟨h.nd, fun q hq => (e q).mp (h.from_ q hq), fun q hq => h.le q ((e q).mpr hq)⟩
theorem least_putMs {ls : List (List Int)} {c : Int} : ∀ {S : List Int × Int → Prop} {f : Wk}, Least S f → Least (fun q => S q ∨ (q.1 ∈ ls ∧ q.2 = c)) (putMs f ls c) := by
  induction ls with
  | nil => exact fun h => least_imp h fun q => by simp
  | cons l ls ih =>
    intro S f h
    refine least_imp (ih (least_putM (l := l) (c := c) h)) fun q => ?_
    constructor
    · rintro ((h | h) | ⟨h1, h2⟩)
      · exact .inl h
      · exact .inr ⟨by rw [h]; simp, by rw [h]⟩
      · exact .inr ⟨List.mem_cons_of_mem _ h1, h2⟩
    · rintro (h | ⟨h1, h2⟩)
      · exact .inl (.inl h)
      · rcases List.mem_cons.mp h1 with h1 | h1
        · exact .inl (.inr (Prod.ext h1 h2))
        · exact .inr ⟨h1, h2⟩
theorem least_behind1 {size page cost : Int} {S : List Int × Int → Prop} {f : Wk} {p : List Int × Int} (h : Least S f) : Least (fun q => S q ∨ Leads size page cost p q) (behind1 size page cost f p) := by
  unfold behind1
  by_cases hp : page ∈ p.1
  · rw [if_pos hp]
    refine least_imp (least_putM h) fun q => ?_
    constructor
    · rintro (h | h)
      · exact .inl h
      · exact .inr (.inl ⟨hp, h⟩)
    · rintro (h | ⟨_, h⟩ | ⟨h, _⟩)
      · exact .inl h
      · exact .inr h
      · exact absurd hp h
  · rw [if_neg hp]
    refine least_imp (least_putMs h) fun q => ?_
    constructor
    · rintro (h | h)
      · exact .inl h
      · exact .inr (.inr ⟨hp, h⟩)
    · rintro (h | ⟨h, _⟩ | ⟨_, h⟩)
      · exact .inl h
      · exact absurd h hp
      · exact .inr h
theorem least_fold {size page cost : Int} : ∀ {w : Wk} {S : List Int × Int → Prop} {f : Wk}, Least S f → Least (fun q => S q ∨ ∃ p ∈ w, Leads size page cost p q) (w.foldl (behind1 size page cost) f)
  | [], S, f, h => least_imp h fun q => by simp
  | p :: w, S, f, h => by
    refine least_imp (least_fold (w := w) (least_behind1 (p := p) h)) fun q => ?_
    constructor
    · rintro ((h | h) | ⟨x, hx, h⟩)
      · exact .inl h
      · exact .inr ⟨p, by simp, h⟩
      · exact .inr ⟨x, by simp [hx], h⟩
    · rintro (h | ⟨x, hx, h⟩)
      · exact .inl (.inl h)
      · rcases List.mem_cons.mp hx with rfl | hx
        · exact .inl (.inr h)
        · exact .inr ⟨x, hx, h⟩
/-- behind an ask stands the least of what all entries lead to -/
theorem least_behind {size page cost : Int} {w : Wk} : Least (fun q => ∃ p ∈ w, Leads size page cost p q) (behindF size w page cost) := by
  have h0 : Least (fun _ => False) [] := ⟨by simp, by simp, fun _ h => h.elim⟩
  exact least_imp (least_fold h0) fun q => by simp
theorem worksF_app (size : Int) (cs : Costs) (ps : List Int) (p : Int) : worksF size cs (ps ++ [p]) = behindF size (worksF size cs ps) p (costF cs p) := by
  unfold worksF
  rw [List.foldl_append]
  rfl
/-! what moves lead to is right -/
theorem sortI_perm (l : List Int) : (sortI l).Perm l := List.mergeSort_perm _ _
theorem rise_sort {l : List Int} (h : l.Nodup) : Rise (sortI l) := by
  have h1 := sortI_pw l
  have h2 : (sortI l).Nodup := (sortI_perm l).nodup_iff.mpr h
  unfold Rise
  refine (h1.and h2).imp ?_
  rintro a b ⟨h3, h4⟩
  exact lt_of_le_ne' h3 h4
where lt_of_le_ne' {a b : Int} (h : a ≤ b) (n : a ≠ b) : a < b := by omega
theorem Rise.nodup {l : List Int} (h : Rise l) : l.Nodup := h.imp fun {a b} h e => by omega
theorem filter_ne {l : List Int} (h : l.Nodup) (g : Int) : l.filter (fun x => decide (x ≠ g)) = l.erase g := by
  rw [h.erase_eq_filter]
  refine List.filter_congr fun x _ => ?_
  by_cases e : x = g <;> simp [e]
theorem moves_ok {size : Int} {held : List Int} {page : Int} (hs : 1 ≤ size) (h : HOk9 size held) (hp : 0 ≤ page ∧ page ≤ 9) (hm : page ∉ held) : ∀ l ∈ movesF size held page, HOk9 size l ∧ page ∈ l := by
  intro l hl
  unfold movesF at hl
  split at hl
  · rename_i hlen
    have e : l = sortI (held ++ [page]) := by simpa using hl
    have nd : (held ++ [page]).Nodup := by
      rw [List.nodup_append]
      refine ⟨h.rise.nodup, by simp, fun x hx y hy => ?_⟩
      have : y = page := by simpa using hy
      subst this
      rintro rfl
      exact hm hx
    subst e
    refine ⟨⟨rise_sort nd, fun x hx => ?_, ?_⟩, (sortI_perm _).mem_iff.mpr (by simp)⟩
    · rcases List.mem_append.mp ((sortI_perm _).mem_iff.mp hx) with h1 | h1
      · exact h.p9 x h1
      · have : x = page := by simpa using h1
        omega
    · rw [(sortI_perm _).length_eq]
      simp
      omega
  · rename_i hlen
    obtain ⟨g, hg, rfl⟩ := List.mem_map.mp hl
    rw [filter_ne h.rise.nodup]
    have nd : (held.erase g ++ [page]).Nodup := by
      rw [List.nodup_append]
      refine ⟨h.rise.nodup.erase g, by simp, fun x hx y hy => ?_⟩
      have : y = page := by simpa using hy
      subst this
      rintro rfl
      exact hm (List.mem_of_mem_erase hx)
    refine ⟨⟨rise_sort nd, fun x hx => ?_, ?_⟩, (sortI_perm _).mem_iff.mpr (by simp)⟩
    · rcases List.mem_append.mp ((sortI_perm _).mem_iff.mp hx) with h1 | h1
      · exact h.p9 x (List.mem_of_mem_erase h1)
      · have : x = page := by simpa using h1
        omega
    · rw [(sortI_perm _).length_eq, List.length_append, List.length_erase_of_mem hg]
      have := List.length_pos_of_mem hg
      have := h.len
      simp
      omega
theorem leads_ok {size page cost : Int} {p q : List Int × Int} (hs : 1 ≤ size) (hp : 0 ≤ page ∧ page ≤ 9) (h : HOk9 size p.1) (l : Leads size page cost p q) : HOk9 size q.1 ∧ page ∈ q.1 := by
  rcases l with ⟨h1, rfl⟩ | ⟨h1, h2, _⟩
  · exact ⟨h, h1⟩
  · exact moves_ok hs h hp h1 _ h2
theorem behind_ok {size page cost : Int} {w : Wk} (hs : 1 ≤ size) (hp : 0 ≤ page ∧ page ≤ 9) (h : WkOk size w) : WkOk size (behindF size w page cost) := by
  have l := least_behind (size := size) (page := page) (cost := cost) (w := w)
  refine ⟨l.nd, fun q hq => ?_⟩
  obtain ⟨p, hp', hl⟩ := l.from_ q hq
  exact (leads_ok hs hp (h.ok p hp') hl).1
theorem works_okG {size : Int} {cs : Costs} (hs : 1 ≤ size) : ∀ {ps : List Int} {w : Wk}, WkOk size w → (∀ p ∈ ps, 0 ≤ p ∧ p ≤ 9) → WkOk size (ps.foldl (fun w p => behindF size w p (costF cs p)) w)
  | [], _, h, _ => h
  | p :: ps, _, h, h9 => works_okG hs (ps := ps) (behind_ok hs (h9 p (by simp)) h) fun q hq => h9 q (by simp [hq])
theorem works_ok {size : Int} {cs : Costs} (hs : 1 ≤ size) {ps : List Int} (h9 : ∀ p ∈ ps, 0 ≤ p ∧ p ≤ 9) : WkOk size (worksF size cs ps) :=
  works_okG hs ⟨by simp, fun p hp => by
    have : p = ([], 0) := by simpa using hp
    subst this
    exact ⟨by simp [Rise], by simp, by simp; omega⟩⟩ h9
end Cb

set_option Elab.async false
set_option linter.all false
set_option maxRecDepth 100000
set_option maxHeartbeats 4000000
/-! What the program's defs compute: the best that knows all: the defs. -/
namespace Cb
open PySem PySem.Spec PyProof.Rows L2 Dl
abbrev tupI (l : List Int) : D := .tup (l.map dI)
def missN (r : Str) (size : Int) (ps : List Int) : Nat := missesL (runG r size sta0 ps).1
def dsp_misses_by (K : PySem.W.Frag) : DSp := fun ds G Q _ => ∃ r size ps, ds = [dS r, dI size, tupI ps] ∧ ps.length ≤ 60 ∧ r ∈ ruleIx ∧ 1 ≤ size ∧ size ≤ 6 ∧ Q (dI (missN r size ps)) G
def dsp_curve (K : PySem.W.Frag) : DSp := fun ds G Q _ => ∃ r ps m, ds = [dS r, tupI ps, dI m] ∧ ps.length ≤ 60 ∧ (∀ p ∈ ps, 0 ≤ p ∧ p ≤ 9) ∧ r ∈ ruleIx ∧ 1 ≤ m ∧ m ≤ 6 ∧
  ∀ p, G p = none → Q (dR p) (gu G p (.lst ((List.range m.toNat).map fun (i : Nat) => dI (missN r (i + 1) ps))))
def dsp_need_costs (K : PySem.W.Frag) : DSp := fun ds G Q _ => ∃ cs, ds = [costD cs] ∧ CostOk cs ∧ Q dN G
def dsp_cost_of (K : PySem.W.Frag) : DSp := fun ds G Q _ => ∃ cs p, ds = [costD cs, dI p] ∧ CostOk cs ∧ 0 ≤ p ∧ p ≤ 9 ∧ Q (dI (costF cs p)) G
def dsp_moves (K : PySem.W.Frag) : DSp := fun ds G Q _ => ∃ size held page, ds = [dI size, tupI held, dI page] ∧ held.length ≤ 10 ∧ ∀ p, G p = none → Q (dR p) (gu G p (.lst ((movesF size held page).map tupI)))
abbrev N_misses_by : List Str := ["rule", "size", "stream"]
abbrev ps_misses_by : List Str := ["rule", "size", "stream"]
@[simp] theorem st_misses_by (x0 x1 x2 : D) : startD N_misses_by [x0, x1, x2] = [some x0, some x1, some x2] := rfl
def t_misses_by (K : PySem.W.Frag) (WD : XDW) : TDS := (dRet (dCall (dsp_misses_in K) WD (dCons (dOp dIx (dCall (dsp_run_by K) WD (dCons (dVar 0) (dCons (dVar 1) (dCons (dVar 2) dNil)))) (dC (dI 0))) dNil)))
abbrev N_curve : List Str := ["rule", "stream", "most", "size"]
abbrev ps_curve : List Str := ["rule", "stream", "most"]
@[simp] theorem st_curve (x0 x1 x2 : D) : startD N_curve [x0, x1, x2] = [some x0, some x1, some x2, none] := rfl
def t_curve (K : PySem.W.Frag) (WD : XDW) : TDS := (dSeq (dDrop (dCall (dsp_need_rule K) WD (dCons (dVar 0) dNil)))
  (dSeq (dDrop (dCall (dsp_need_stream K) WD (dCons (dVar 1) dNil)))
  (dSeq (dIfS (dNot (dTest (dCall (dsp_is_number K) WD (dCons (dVar 2) (dCons (dC (dI 1)) (dCons (dC (dI 6)) dNil)))))) (dRaise WD (He.ga K "BadCount") []) dNext)
  (dRet (dLc K (iRng2D (dCons (dC (dI 1)) (dCons (dOp dAdd (dVar 2) (dC (dI 1))) dNil))) (gN 3) dYes (dCall (dsp_misses_by K) noX (dCons (dVar 0) (dCons (dVar 3) (dCons (dVar 1) dNil)))) [3])))))
abbrev N_need_costs : List Str := ["costs", "cost"]
abbrev ps_need_costs : List Str := ["costs"]
@[simp] theorem st_need_costs (x0 : D) : startD N_need_costs [x0] = [some x0, none] := rfl
def t_need_costs (K : PySem.W.Frag) (WD : XDW) : TDS := (dSeq (dIfS (dTest (dOp dIs (dVar 0) (dC dN))) dRetN dNext)
  (dSeq (dIfS (dOr (dNot (dTest (dIsi [.tup] (dVar 0)))) (dTest (dOp dNe (dBi dLen (dCons (dVar 0) dNil)) (dOp dAdd (dC (dI 9)) (dC (dI 1)))))) (dRaise WD (He.ga K "BadCosts") []) dNext)
  (dIfS (dNot (dTest (dBi (dAllF fun bs => bs.all id) (dCons (dLc K (iSeqD (dVar 0)) (gN 1) dYes (dCall (dsp_is_number K) noX (dCons (dVar 1) (dCons (dC (dI 1)) (dCons (dC (dI 99)) dNil)))) [1]) dNil)))) (dRaise WD (He.ga K "BadCosts") []) dNext)))
abbrev N_cost_of : List Str := ["costs", "page"]
abbrev ps_cost_of : List Str := ["costs", "page"]
@[simp] theorem st_cost_of (x0 x1 : D) : startD N_cost_of [x0, x1] = [some x0, some x1] := rfl
def t_cost_of (K : PySem.W.Frag) (WD : XDW) : TDS := (dRet (dIfE (dTest (dOp dIs (dVar 0) (dC dN))) (dC (dI 1)) (dOp dIx (dVar 0) (dVar 1))))
abbrev N_moves : List Str := ["size", "held", "page", "one", "gone"]
abbrev ps_moves : List Str := ["size", "held", "page"]
@[simp] theorem st_moves (x0 x1 x2 : D) : startD N_moves [x0, x1, x2] = [some x0, some x1, some x2, none, none] := rfl
def t_moves (K : PySem.W.Frag) (WD : XDW) : TDS := (dSeq (dIfS (dTest (dOp (dI0 fun i j => .bl (decide (i < j))) (dBi dLen (dCons (dVar 1) dNil)) (dVar 0))) (dRet (dLst (dCons (dBi dTuple (dCons (dBi dSortTI (dCons (dOp dAdd (dVar 1) (dTup (dCons (dVar 2) dNil))) dNil)) dNil)) dNil))) dNext)
  (dRet (dLc K (iSeqD (dVar 1)) (gN 4) dYes (dBi dTuple (dCons (dBi dSortL (dCons (dOp dAdd (dLc K (iSeqD (dVar 1)) (gN 3) (dTest (dOp dNe (dVar 3) (dVar 4))) (dVar 3) [3]) (dLst (dCons (dVar 2) dNil))) dNil)) dNil)) [4])))
section
variable {K : PySem.W.Frag} {ds : List D} {G : GH} {QD : DK} {ED : XD}
theorem len_misses_by {Q : DK} {E : XD} (h : dsp_misses_by K ds G Q E) : ds.length = ps_misses_by.length := by
  obtain ⟨_, _, _, rfl, _⟩ := h; rfl
theorem len_curve {Q : DK} {E : XD} (h : dsp_curve K ds G Q E) : ds.length = ps_curve.length := by
  obtain ⟨_, _, _, rfl, _⟩ := h; rfl
theorem len_need_costs {Q : DK} {E : XD} (h : dsp_need_costs K ds G Q E) : ds.length = ps_need_costs.length := by
  obtain ⟨_, rfl, _⟩ := h; rfl
theorem len_cost_of {Q : DK} {E : XD} (h : dsp_cost_of K ds G Q E) : ds.length = ps_cost_of.length := by
  obtain ⟨_, _, rfl, _⟩ := h; rfl
theorem len_moves {Q : DK} {E : XD} (h : dsp_moves K ds G Q E) : ds.length = ps_moves.length := by
  obtain ⟨_, _, _, rfl, _⟩ := h; rfl
theorem pure_misses_by (h : dsp_misses_by K ds G QD ED) : t_misses_by K (excD K ED) (retD K QD) (startD N_misses_by ds) G := by
  obtain ⟨r, size, ps, rfl, hl, hr, hs, hs6, hQ⟩ := h
  unfold t_misses_by
  simp
  refine ⟨r, size, ps, rfl, by omega, hr, hs, hs6, fun p hp => ?_⟩
  simp
  refine ⟨_, atI_z _ _, p, _, rfl, gu_same, by rw [runG_len]; omega, G, ent_new hp, hQ⟩
theorem pure_curve (h : dsp_curve K ds G QD ED) : t_curve K (excD K ED) (retD K QD) (startD N_curve ds) G := by
  obtain ⟨r, ps, m, rfl, hl, h9, hr, h1, h6, hQ⟩ := h
  unfold t_curve
  simp
  refine ⟨r, rfl, fun _ => ⟨ps, rfl, hl, h9, dI m, 1, 6, .int, rfl, rfl, ?_⟩, fun h => absurd hr h⟩
  have hn : numB (dI m) 1 6 = true := by simp [numB, h1, h6]
  rw [hn]
  simp
  refine dlc_pure (rgD 1 m.toNat) (fun d => match d with | .at (.int i) => dI (missN r i ps) | d => d) (fun _ => true) (fun R h => ?_) (by rw [rgD_len, zL_val]; omega) ?_ ?_
  · simp
    refine ⟨by omega, ?_⟩
    exact h _ fun _ _ _ => trivial
  · intro p hp x hx acc Qt Qf q1 q2
    obtain ⟨i, hi⟩ := List.mem_iff_getElem?.mp hx
    obtain ⟨hil, rfl⟩ := rgD_of hi
    simp at q1 ⊢
    exact ⟨r, _, ps, rfl, hl, hr, by omega, by omega, q1⟩
  · intro p hp
    have e : ((rgD 1 m.toNat).filter fun _ => true).map (fun d => match d with | .at (.int i) => dI (missN r i ps) | d => d) = (List.range m.toNat).map fun (i : Nat) => dI (missN r (i + 1) ps) := by
      rw [filt_all]
      unfold rgD
      rw [List.map_map]
      refine List.map_congr_left fun i _ => ?_
      simp [Int.add_comm]
    rw [e]
    exact ret_same (hQ p hp)
theorem costs_at {l : List Int} {p : Int} (h0 : 0 ≤ p) (h9 : p ≤ 9) (hl : l.length = 10) : atI (l.map dI) p = some (dI (costF (some l) p)) := by
  obtain ⟨n, rfl⟩ := Int.eq_ofNat_of_zero_le h0
  refine Cb.atI_nat ?_
  have hn : n < l.length := by omega
  rw [List.getElem?_map, List.getElem?_eq_getElem hn]
  simp [costF, hn]
theorem pure_cost_of (h : dsp_cost_of K ds G QD ED) : t_cost_of K (excD K ED) (retD K QD) (startD N_cost_of ds) G := by
  obtain ⟨cs, p, rfl, ok, h0, h9, hQ⟩ := h
  have hQ := ret_same (K := K) hQ
  unfold t_cost_of
  cases cs with
  | none => simpa [costD, isN, costF] using hQ
  | some l =>
    have := ok l rfl
    simp [costD, isN]
    exact ⟨_, costs_at h0 h9 this.1, hQ⟩
theorem pure_need_costs (h : dsp_need_costs K ds G QD ED) : t_need_costs K (excD K ED) (retD K QD) (startD N_need_costs ds) G := by
  obtain ⟨cs, rfl, ok, hQ⟩ := h
  have hQ := ret_same (K := K) hQ
  unfold t_need_costs
  cases cs with
  | none => simpa [costD, isN] using hQ
  | some l =>
    obtain ⟨h10, hc⟩ := ok l rfl
    simp [costD, isN, kiD, Ki.is, h10]
    refine dlc_pure (l.map dI) (fun _ => dB true) (fun _ => true) (fun R h => ?_) (by rw [List.length_map, zL_val]; omega) ?_ ?_
    · simp
      exact h _ fun _ _ _ => trivial
    · intro p hp x hx acc Qt Qf q1 q2
      obtain ⟨c, hcm, rfl⟩ := List.mem_map.mp hx
      have := hc c hcm
      simp at q1 ⊢
      refine ⟨_, _, _, .int, rfl, rfl, ?_⟩
      simpa [numB, this] using q1
    · intro p hp
      rw [filt_all, List.map_map]
      have e : l.map ((fun _ => dB true) ∘ dI) = (l.map fun _ => true).map dB := by
        rw [List.map_map]
        rfl
      rw [e]
      simp only [gu_same]
      refine ⟨_, rfl, l.map fun _ => true, ?_, ?_⟩
      · have := blsD_map (fun _ : Int => true) l
        rw [List.map_map]
        exact this
      · obtain ⟨G2, h1, h2⟩ := hQ
        refine ⟨fun h => ?_, fun _ => ⟨G2, (ent_new hp).trans h1, h2⟩⟩
        simp at h
theorem pure_moves (h : dsp_moves K ds G QD ED) : t_moves K (excD K ED) (retD K QD) (startD N_moves ds) G := by
  obtain ⟨size, held, page, rfl, hl, hQ⟩ := h
  unfold t_moves
  simp
  refine ⟨fun hlt => ⟨by omega, ?_⟩, fun hge => ?_⟩
  · refine ⟨held ++ [page], by simp, fun ys p hperm hs hp => ?_⟩
    have e : ys = sortI (held ++ [page]) := sortI_uniq hperm hs
    subst e
    intro q hq
    have em : movesF size held page = [sortI (held ++ [page])] := by unfold movesF; rw [if_pos hlt]
    rw [em] at hQ
    obtain ⟨h1, h2⟩ := gu_none hq
    refine ⟨_, ?_, hQ q h2⟩
    rw [gu_comm (Ne.symm h1)]
    exact Ent.le (Le.new (by rw [gu_ne (Ne.symm h1)]; exact hp))
  · have em : movesF size held page = held.map fun gone => sortI (held.filter (fun x => decide (x ≠ gone)) ++ [page]) := by unfold movesF; rw [if_neg (by omega)]
    rw [em] at hQ
    refine dlc_w ?_
    simp only [s_iSeqD, s_dVar, gs_0, gs_s]
    intro p hp
    refine ⟨fun i G' => G' = gu G p (.lst ((held.take i).map fun gone => tupI (sortI (held.filter (fun x => decide (x ≠ gone)) ++ [page])))), by simp, fun _ _ _ => trivial, ?_, ?_⟩
    · rintro i x G' hx rfl
      obtain ⟨g, hg, rfl⟩ := ints_get hx
      have hi := (List.getElem?_eq_some_iff.mp hg).1
      simp only [s_gN, wsAll_c, wsAll_n, ws_0, ws_s, ss_0, ss_s, s_dYes]
      refine ⟨fun _ => ?_, fun h => by cases h⟩
      simp only [s_dBi, s_dCons, s_dNil, s_dOp]
      generalize hG : gu G p (.lst ((held.take i).map fun gone => tupI (sortI (held.filter (fun x => decide (x ≠ gone)) ++ [page])))) = G1
      have hp1 : G1 p = some (.lst ((held.take i).map fun gone => tupI (sortI (held.filter (fun x => decide (x ≠ gone)) ++ [page])))) := by rw [← hG, gu_same]
      refine dlc_pure (held.map dI) id (fun d => match d with | .at (.int x) => decide (x ≠ g) | _ => false) (fun R h => ?_) (by rw [List.length_map, zL_val]; omega) ?_ ?_
      · simp
        exact h _ fun _ _ _ => trivial
      · intro q hq x hx acc Qt Qf q1 q2
        obtain ⟨y, _, rfl⟩ := List.mem_map.mp hx
        by_cases e : y = g <;> simp_all
      · intro q hq
        have ef : ((held.map dI).filter fun d => match d with | .at (.int x) => decide (x ≠ g) | _ => false).map (id : D → D) = (held.filter fun x => decide (x ≠ g)).map dI := by
          rw [List.map_id, List.filter_map]
          rfl
        rw [ef]
        simp only [s_dLst, s_dCons, s_dNil, s_dVar, gs_0, gs_s]
        refine ⟨by simp, fun q2 hq2 => ?_⟩
        obtain ⟨n1, n2⟩ := gu_none hq2
        refine ⟨_, _, by rw [gu_ne (Ne.symm n1), gu_same], gu_same, ?_, fun q3 hq3 => ?_⟩
        · have := List.length_filter_le (fun x => decide (x ≠ g)) held
          simp only [List.length_map, List.length_cons, List.length_nil, zL_val]
          omega
        · have ea : (held.filter fun x => decide (x ≠ g)).map dI ++ [dI page] = (held.filter (fun x => decide (x ≠ g)) ++ [page]).map dI := by simp
          rw [ea]
          refine sort_ints gu_same fun q4 hq4 => ?_
          refine ⟨_, gu_same, ?_⟩
          have hle : Le G1 (gu (gu (gu (gu G1 q (.lst ((held.filter fun x => decide (x ≠ g)).map dI))) q2 (.lst [dI page])) q3 (.lst ((held.filter (fun x => decide (x ≠ g)) ++ [page]).map dI))) q4 (.lst ((sortI (held.filter (fun x => decide (x ≠ g)) ++ [page])).map dI))) := (((Le.new hq).trans (Le.new hq2)).trans (Le.new hq3)).trans (Le.new hq4)
          refine ⟨_, hle _ _ hp1, ?_, gu G p (.lst ((held.take (i + 1)).map fun gone => tupI (sortI (held.filter (fun x => decide (x ≠ gone)) ++ [page])))), ?_, rfl⟩
          · simp only [List.length_map, List.length_take, zL_val]
            omega
          · have et : (held.take (i + 1)).map (fun gone => tupI (sortI (held.filter (fun x => decide (x ≠ gone)) ++ [page]))) = (held.take i).map (fun gone => tupI (sortI (held.filter (fun x => decide (x ≠ gone)) ++ [page]))) ++ [tupI (sortI (held.filter (fun x => decide (x ≠ g)) ++ [page]))] := by
              rw [take_at hg, List.map_append]
              rfl
            rw [et]
            refine (Ent.le (Le.gu hle)).trans ?_
            rw [← hG, gu_gu]
            exact Ent.refl _
    · rintro G' rfl
      rw [List.length_map, List.take_length]
      rw [List.map_map] at hQ
      exact ret_same (hQ p hp)
end
end Cb

set_option Elab.async false
set_option linter.all false
set_option maxRecDepth 100000
set_option maxHeartbeats 4000000
/-! What the program's defs compute: the best that knows all: works. -/
namespace Cb
open PySem PySem.Spec PyProof.Rows L2 Dl
theorem wk_put {size : Int} {f : Wk} {l : List Int} {c : Int} (h : WkOk size f) (hl : HOk9 size l) : WkOk size (putM f l c) := ⟨putW_nd h.nd, fun q hq => by
  rcases putW_mem hq with rfl | ⟨h1, _⟩
  · exact hl
  · exact h.ok q h1⟩
def dsp_work_behind (K : PySem.W.Frag) : DSp := fun ds G Q _ => ∃ size d w page cost, ds = [dI size, dR d, dI page, dI cost] ∧ G d = some (dNd K d (wkD w)) ∧ WkOk size w ∧ 1 ≤ size ∧ size ≤ 6 ∧ 0 ≤ page ∧ page ≤ 9 ∧
  ∀ p, G p = none → Q (dR p) (gu G p (dNd K p (wkD (behindF size w page cost))))
abbrev N_work_behind : List Str := ["size", "work", "page", "cost", "found", "held", "spent", "later"]
abbrev ps_work_behind : List Str := ["size", "work", "page", "cost"]
@[simp] theorem st_work_behind (x0 x1 x2 x3 : D) : startD N_work_behind [x0, x1, x2, x3] = [some x0, some x1, some x2, some x3, none, none, none, none] := rfl
def t_work_behind_1 (K : PySem.W.Frag) (WD : XDW) : TDS := (dRet (dVar 4))
def t_work_behind_2 (K : PySem.W.Frag) (WD : XDW) : TDS := (dSeq (dFor K (iItmN K (dVar 1)) (gT 2 (gC (gN 5) (gC (gN 6) gE))) (dIfS (dTest (dOp dIn (dVar 2) (dVar 5))) (dAsg (dBi (dTwo fun i j => if j < i then j else i) (dCons (dGet2N K (dVar 4) (dCons (dVar 5) (dCons (dVar 6) dNil))) (dCons (dVar 6) dNil))) (gSN K (dVar 4) (dVar 5))) (dFor K (iLstD (dCall (dsp_moves K) WD (dCons (dVar 0) (dCons (dVar 5) (dCons (dVar 2) dNil))))) (gN 7) (dAsg (dBi (dTwo fun i j => if j < i then j else i) (dCons (dGet2N K (dVar 4) (dCons (dVar 7) (dCons (dOp dAdd (dVar 6) (dVar 3)) dNil))) (dCons (dOp dAdd (dVar 6) (dVar 3)) dNil))) (gSN K (dVar 4) (dVar 7))))))
  (t_work_behind_1 K WD))
def t_work_behind (K : PySem.W.Frag) (WD : XDW) : TDS := (dSeq (dAsg (dNewN K) (gN 4))
  (t_work_behind_2 K WD))
section
variable {K : PySem.W.Frag} {ds : List D} {G : GH} {QD : DK} {ED : XD}
theorem len_work_behind {Q : DK} {E : XD} (h : dsp_work_behind K ds G Q E) : ds.length = ps_work_behind.length := by
  obtain ⟨_, _, _, _, _, rfl, _⟩ := h; rfl
theorem put_step {size : Int} {p : Addr} {f : Wk} {l : List Int} {c : Int} {a : Nat} {te : TDE} {E : DEnds} {δ : DSt} (hp : G p = some (dNd K p (wkD f))) (wf : WkOk size f) (h4 : gs δ 4 = some (dR p)) (ha : gs δ a = some (tupI l)) (ht : ∀ Q, te δ G Q = Q (dI c) G)
    (fin : E.nx δ (gu G p (dNd K p (wkD (putM f l c))))) :
    dAsg (dBi (dTwo fun i j => if j < i then j else i) (dCons (dGet2N K (dVar 4) (dCons (dVar a) (dCons te dNil))) (dCons te dNil))) (gSN K (dVar 4) (dVar a)) E δ G := by
  have hlen := wf.len
  simp only [s_dAsg, s_dBi, s_dCons, s_dNil, s_dGet2N, s_dVar, h4, ha, ht]
  refine ⟨⟨_, .inl hp⟩, _, nkI l, .inl hp, ok_nkI l, (kD_nkI l).symm, ?_⟩
  have e : (valD (wkD f) (nkI l)).getD (dI c) = dI ((valW f l).getD c) := by
    rw [val_wkD]
    cases valW f l <;> rfl
  rw [e]
  simp only [s_dTwo, s_gSN, s_dVar, h4, ha, s_dSetN]
  refine ⟨_, nkI l, hp, ok_nkI l, (kD_nkI l).symm, ?_, ?_⟩
  · unfold wkD
    rw [List.length_map, zL_val]
    omega
  · rw [put_wkD]
    exact fin
theorem items_at {w : Wk} {i : Nat} {x : D} (h : (itemsN (wkD w))[i]? = some x) : ∃ q, w[i]? = some q ∧ x = .tup [tupI q.1, dI q.2] := by
  unfold itemsN wkD at h
  rw [List.map_map, List.getElem?_map] at h
  cases e : w[i]? with
  | none => rw [e] at h; cases h
  | some q =>
    rw [e] at h
    refine ⟨q, rfl, ?_⟩
    rw [← Option.some.inj h]
    simp only [Function.comp_apply, kD_nkI]
theorem items_len {w : Wk} : (itemsN (wkD w)).length = w.length := by simp [itemsN, wkD]
theorem pure_work_behind (h : dsp_work_behind K ds G QD ED) : t_work_behind K (excD K ED) (retD K QD) (startD N_work_behind ds) G := by
  obtain ⟨size, d, w, page, cost, rfl, hd, wf, hs, hs6, hp0, hp9, hQ⟩ := h
  simp [t_work_behind]
  intro p hp
  have pd : p ≠ d := fun e => by rw [e, hd] at hp; cases hp
  unfold t_work_behind_2
  rw [s_dSeq]
  refine dfor_w ?_
  simp only [s_iItmN, s_dVar, gs_0, gs_s]
  refine ⟨wkD w, by rw [gu_ne (Ne.symm pd)]; exact hd, fun ob => ?_⟩
  refine ⟨fun i δ' G' => ∃ x5 x6 x7, δ' = [some (dI size), some (dR d), some (dI page), some (dI cost), some (dR p), x5, x6, x7] ∧ WkOk size ((w.take i).foldl (behind1 size page cost) []) ∧
    G' = gu (gu G d (dNdL K d ob (wkD w))) p (dNd K p (wkD ((w.take i).foldl (behind1 size page cost) []))), ⟨none, none, none, rfl, ⟨by simp, by simp⟩, by rw [gu_comm pd]; rfl⟩, fun i δ' G' h => ?_, ?_, ?_⟩
  · obtain ⟨_, _, _, _, _, rfl⟩ := h
    rw [gu_ne (Ne.symm pd), gu_same]
  · rintro i x δ' G' hx ⟨x5, x6, x7, rfl, wi, rfl⟩
    obtain ⟨q, hq, rfl⟩ := items_at hx
    have hqm : q ∈ w := List.mem_of_getElem? hq
    have ef : (w.take (i + 1)).foldl (behind1 size page cost) [] = behind1 size page cost ((w.take i).foldl (behind1 size page cost) []) q := by
      rw [take_at hq, List.foldl_append]
      rfl
    dsimp only
    rw [ef]
    generalize (w.take i).foldl (behind1 size page cost) [] = f at wi ⊢
    generalize hG0 : gu G d (dNdL K d ob (wkD w)) = G0
    simp only [s_gT, s_gC, s_gE, s_gN, ss_0, ss_s]
    refine ⟨by trivial, by trivial, ?_⟩
    have hpm : (gu G0 p (dNd K p (wkD f))) p = some (dNd K p (wkD f)) := gu_same
    simp only [s_dIfS, s_dTest, s_dOp, s_dVar, gs_0, gs_s]
    show dInF id (dI page) (tupI q.1) _ _
    refine ⟨rfl, flat_ints _, ?_⟩
    rw [inD_ints]
    refine ⟨fun h => ?_, fun h => ?_⟩
    · have h : page ∈ q.1 := by simpa using h
      refine put_step (c := q.2) (l := q.1) hpm wi rfl rfl (fun Q => rfl) ?_
      have eb : behind1 size page cost f q = putM f q.1 q.2 := by unfold behind1; rw [if_pos h]
      rw [gu_gu, eb]
      exact ⟨_, Ent.refl _, _, _, _, rfl, wk_put wi (wf.ok q hqm), rfl⟩
    · have h : page ∉ q.1 := by simpa using h
      have eb : behind1 size page cost f q = putMs f (movesF size q.1 page) (q.2 + cost) := by unfold behind1; rw [if_neg h]
      have mok := moves_ok hs (wf.ok q hqm) ⟨hp0, hp9⟩ h
      rw [eb]
      have lh : q.1.length ≤ 10 := by have := (wf.ok q hqm).len; omega
      refine dfor_w ?_
      simp only [s_iLstD, s_dCall, s_dCons, s_dNil, s_dVar, gs_0, gs_s]
      refine ⟨size, q.1, page, rfl, lh, fun m hm => ?_⟩
      obtain ⟨mp, hm0⟩ := gu_none hm
      refine ⟨_, gu_same, fun j δ' G' => ∃ x7, δ' = [some (dI size), some (dR d), some (dI page), some (dI cost), some (dR p), some (tupI q.1), some (dI q.2), x7] ∧ WkOk size (putMs f ((movesF size q.1 page).take j) (q.2 + cost)) ∧
        G' = gu (gu G0 m (.lst ((movesF size q.1 page).map tupI))) p (dNd K p (wkD (putMs f ((movesF size q.1 page).take j) (q.2 + cost)))), ⟨x7, rfl, wi, by rw [gu_comm (Ne.symm mp)]; rfl⟩, fun j δ' G' h => ?_, ?_, ?_⟩
      · obtain ⟨_, _, _, rfl⟩ := h
        rw [gu_ne mp, gu_same]
      · rintro j y δ' G' hy ⟨x7, rfl, wj, rfl⟩
        rw [List.getElem?_map] at hy
        cases el : (movesF size q.1 page)[j]? with
        | none => rw [el] at hy; cases hy
        | some l =>
          rw [el] at hy
          cases hy
          have hl := (mok l (List.mem_of_getElem? el)).1
          have e2 : putMs f ((movesF size q.1 page).take (j + 1)) (q.2 + cost) = putM (putMs f ((movesF size q.1 page).take j) (q.2 + cost)) l (q.2 + cost) := by
            rw [take_at el]
            unfold putMs
            rw [List.foldl_append]
            rfl
          dsimp only
          rw [e2]
          simp only [s_gN, ss_0, ss_s]
          refine put_step (c := q.2 + cost) (l := l) gu_same wj rfl rfl (fun Q => rfl) ?_
          rw [gu_gu]
          exact ⟨_, Ent.refl _, _, rfl, wk_put wj hl, rfl⟩
      · rintro δ' G' ⟨x7, rfl, wj, rfl⟩
        rw [List.length_map, List.take_length] at wj ⊢
        refine ⟨_, ?_, _, _, _, rfl, wj, rfl⟩
        rw [gu_comm mp]
        refine Ent.le (Le.new ?_)
        rw [gu_ne mp]
        exact hm0
  · rintro δ' G' ⟨x5, x6, x7, rfl, wi, rfl⟩
    rw [items_len, List.take_length]
    simp [t_work_behind_1]
    refine ⟨_, ?_, hQ p hp⟩
    have e1 : (gu (gu G d (dNdL K d ob (wkD w))) p (dNd K p (wkD (w.foldl (behind1 size page cost) [])))) d = some (dNdL K d ob (wkD w)) := by rw [gu_ne (Ne.symm pd), gu_same]
    refine (Ent.unlock e1).trans ?_
    have e2 : gu (gu (gu G d (dNdL K d ob (wkD w))) p (dNd K p (wkD (w.foldl (behind1 size page cost) [])))) d (dNd K d (wkD w)) = gu G p (dNd K p (wkD (behindF size w page cost))) := by
      rw [gu_comm pd, gu_gu, gu_self hd]
      rfl
    rw [e2]
    exact Ent.refl _
end
end Cb

set_option Elab.async false
set_option linter.all false
set_option maxRecDepth 100000
set_option maxHeartbeats 4000000
/-! What the program's defs compute: the best that knows all: works ahead of each ask, a step back. -/
namespace Cb
open PySem PySem.Spec PyProof.Rows L2 Dl
theorem at_last {α : Type} (xs : List α) (x : α) : atI (xs ++ [x]) (-1) = some x := by
  unfold atI
  have e : ixN (xs ++ [x]).length (-1) = some xs.length := by
    unfold ixN
    rw [List.length_append, List.length_singleton, if_neg (by omega), if_pos (by omega)]
    congr 1
    omega
  rw [e]
  simp
/-! tuples of numbers in lists -/
theorem lists_all : ∀ ls : List (List Int), PyData.canLayAll0 (pys (ls.map tupI)) = true ∧ PyData.depthAll (pys (ls.map tupI)) ≤ 1 ∧ plains (ls.map tupI) = true
  | [] => by simp [pys, PyData.canLayAll0, PyData.depthAll, plains]
  | l :: ls => by
    obtain ⟨h1, h2, h3⟩ := lists_all ls
    obtain ⟨i1, i2, i3⟩ := ints_all l
    simp only [List.map_cons, pys, py, PyData.canLayAll0, PyData.canLay0, PyData.depthAll, PyData.depth, plains, Dl.plain, h1, h3, i1, i2, i3]
    refine ⟨by simp, by omega, by simp⟩
theorem shp_lists (ls : List (List Int)) : shp (.list (pys (ls.map tupI))) = true := by
  obtain ⟨h1, h2, h3⟩ := lists_all ls
  unfold shp SeqAt.shaped
  simp only [PyData.canLay0, PyData.depth, h1]
  simp
  omega
theorem any_lists (l : List Int) : ∀ ls : List (List Int), ((pys (ls.map tupI)).any fun z => PyData.eqv z (.tuple (pys (l.map dI)))) = decide (l ∈ ls)
  | [] => rfl
  | m :: ls => by
    have ih := any_lists l ls
    show (PyData.eqv (.tuple (pys (m.map dI))) (.tuple (pys (l.map dI))) || ((pys (ls.map tupI)).any fun z => PyData.eqv z (.tuple (pys (l.map dI))))) = _
    rw [ih]
    have : PyData.eqv (.tuple (pys (m.map dI))) (.tuple (pys (l.map dI))) = decide (m = l) := eqv_ints m l
    rw [this]
    by_cases h : m = l
    · simp [h]
    · have : ¬ l = m := fun e => h e.symm
      simp [h, this]
theorem inDF_lists {f : Bool → Bool} {G : GH} {Q : DK} {a : Addr} {l : List Int} {ls : List (List Int)} (ha : G a = some (.lst (ls.map tupI))) (q : Q (dB (f (decide (l ∈ ls)))) G) : dInDF f (tupI l) (dR a) G Q := by
  rw [← any_lists] at q
  exact ⟨_, _, .tup (DPys.of _ _ (ints_all l).2.2), .lst ha (DPys.of _ _ (lists_all ls).2.2), shp_tupI l, shp_lists ls, q⟩
theorem deq_optI {G : GH} {Q : DK} {o : Option Int} {s : Int} (q : Q (dB (decide (o = some s))) G) : dEqF id ((o.map dI).getD dN) (dI s) G Q := by
  cases o with
  | none => exact ⟨_, _, .non, .int s, rfl, rfl, q⟩
  | some c => simpa using q
theorem sortable_tups {ls : List (List Int)} (h : ∀ l ∈ ls, l ≠ []) : PySem.W.AllAlike (pys (ls.map tupI)) ∧ PySem.W.Sortable (pys (ls.map tupI)) := by
  have e : pys (ls.map tupI) = ls.map fun l => .tuple (l.map .int) := by
    rw [pys_map, List.map_map]
    refine List.map_congr_left fun l _ => ?_
    show PyData.tuple (pys (l.map dI)) = _
    rw [pys_map, List.map_map]
    rfl
  rw [e]
  refine ⟨PySem.W.AllAlike.of fun b c => ?_, .inl fun d hd => ?_⟩
  · exact PySem.W.alike_ints b c
  · obtain ⟨l, hl, rfl⟩ := List.mem_map.mp hd
    cases l with
    | nil => exact absurd rfl (h _ hl)
    | cons x l => exact ⟨_, _, rfl⟩
def dsp_works_of (K : PySem.W.Frag) : DSp := fun ds G Q _ => ∃ size ps cs, ds = [dI size, tupI ps, costD cs] ∧ 1 ≤ size ∧ size ≤ 6 ∧ ps.length ≤ 60 ∧ (∀ p ∈ ps, 0 ≤ p ∧ p ≤ 9) ∧ CostOk cs ∧
  ∀ a (rs : List Addr) G', rs.length = ps.length + 1 → G' a = some (.lst (rs.map dR)) → (∀ j r, rs[j]? = some r → r ≠ a ∧ G' r = some (dNd K r (wkD (worksF size cs (ps.take j))))) → Le G G' → rs.Nodup → (∀ r ∈ rs, G r = none) → Q (dR a) G'
/-- one ask back -/
def Back (size page cost : Int) (q : List Int × Int) (later : List Int) (spent : Int) (gone : Option Int) : Prop :=
  (page ∈ later ∧ q = (later, spent) ∧ gone = none) ∨ (page ∉ q.1 ∧ q.2 + cost = spent ∧ later ∈ movesF size q.1 page ∧ gone = (q.1.filter fun x => decide (x ∉ later)).head?)
def dsp_step_back (K : PySem.W.Frag) : DSp := fun ds G Q _ => ∃ size d w spent later page cs, ds = [dI size, dR d, dI spent, tupI later, dI page, costD cs] ∧ IsNd K G d (wkD w) ∧ WkOk size w ∧ (w.length ≤ 1 ∨ ∀ q ∈ w, q.1 ≠ []) ∧ 1 ≤ size ∧ size ≤ 6 ∧ 0 ≤ page ∧ page ≤ 9 ∧ CostOk cs ∧ later.length ≤ 10 ∧
  (∃ q ∈ w, Leads size page (costF cs page) q (later, spent)) ∧ ∀ q gone, q ∈ w → Back size page (costF cs page) q later spent gone → Q (.tup [tupI q.1, eOpt gone]) G
abbrev N_works_of : List Str := ["size", "stream", "costs", "found", "page"]
abbrev ps_works_of : List Str := ["size", "stream", "costs"]
@[simp] theorem st_works_of (x0 x1 x2 : D) : startD N_works_of [x0, x1, x2] = [some x0, some x1, some x2, none, none] := rfl
def t_works_of (K : PySem.W.Frag) (WD : XDW) : TDS := (dSeq (dAsg (dLst (dCons (d1N K (dTup dNil) (dC (dI 0))) dNil)) (gN 3))
  (dSeq (dFor K (iSeqD (dVar 1)) (gN 4) (dDrop (dBm "list" dAppend (dVar 3) (dCons (dCall (dsp_work_behind K) WD (dCons (dVar 0) (dCons (dOp dIx (dVar 3) (dNeg (dC (dI 1)))) (dCons (dVar 4) (dCons (dCall (dsp_cost_of K) WD (dCons (dVar 2) (dCons (dVar 4) dNil))) dNil))))) dNil))))
  (dRet (dVar 3))))
abbrev N_step_back : List Str := ["size", "work", "spent", "later", "page", "costs", "held", "gone", "one"]
abbrev ps_step_back : List Str := ["size", "work", "spent", "later", "page", "costs"]
@[simp] theorem st_step_back (x0 x1 x2 x3 x4 x5 : D) : startD N_step_back [x0, x1, x2, x3, x4, x5] = [some x0, some x1, some x2, some x3, some x4, some x5, none, none, none] := rfl
def t_step_back_1 (K : PySem.W.Frag) (WD : XDW) : TDS := (dRet (dTup (dCons (dVar 6) (dCons (dIfE (dTest (dOp dNe (dVar 7) (dLst dNil))) (dOp dIx (dVar 7) (dC (dI 0))) (dC dN)) dNil))))
def t_step_back_2 (K : PySem.W.Frag) (WD : XDW) : TDS := (dRet (dTup (dCons (dVar 3) (dCons (dC dN) dNil))))
def t_step_back_3 (K : PySem.W.Frag) (WD : XDW) : TDS := (dSeq (dFor K (iLstD (dBi (dSortN K) (dCons (dVar 1) dNil))) (gN 6) (dIfS (dAnd (dTest (dOp dNotin (dVar 4) (dVar 6))) (dAnd (dTest (dOp dEq (dOp dAdd (dOp (dGetN K) (dVar 1) (dVar 6)) (dCall (dsp_cost_of K) WD (dCons (dVar 5) (dCons (dVar 4) dNil)))) (dVar 2))) (dTest (dOp (dInDF id) (dVar 3) (dCall (dsp_moves K) WD (dCons (dVar 0) (dCons (dVar 6) (dCons (dVar 4) dNil)))))))) (dSeq (dAsg (dLc K (iSeqD (dVar 6)) (gN 8) (dTest (dOp dNotin (dVar 8) (dVar 3))) (dVar 8) [8]) (gN 7))
  (t_step_back_1 K WD)) dNext))
  (t_step_back_2 K WD))
def t_step_back (K : PySem.W.Frag) (WD : XDW) : TDS := (dSeq (dIfS (dAnd (dTest (dOp dEq (dGet2N K (dVar 1) (dCons (dVar 3) (dCons (dC dN) dNil))) (dVar 2))) (dTest (dOp dIn (dVar 4) (dVar 3)))) (dRet (dTup (dCons (dVar 3) (dCons (dC dN) dNil)))) dNext)
  (t_step_back_3 K WD))
section
variable {K : PySem.W.Frag} {ds : List D} {G : GH} {QD : DK} {ED : XD}
theorem len_works_of {Q : DK} {E : XD} (h : dsp_works_of K ds G Q E) : ds.length = ps_works_of.length := by
  obtain ⟨_, _, _, rfl, _⟩ := h; rfl
theorem len_step_back {Q : DK} {E : XD} (h : dsp_step_back K ds G Q E) : ds.length = ps_step_back.length := by
  obtain ⟨_, _, _, _, _, _, _, rfl, _⟩ := h; rfl
theorem pure_works_of (h : dsp_works_of K ds G QD ED) : t_works_of K (excD K ED) (retD K QD) (startD N_works_of ds) G := by
  obtain ⟨size, ps, cs, rfl, hs, hs6, hl, h9, ok, hQ⟩ := h
  unfold t_works_of
  rw [s_dSeq]
  simp only [s_dAsg, s_dLst, s_dCons, s_dNil, s_d1N, s_dTup, s_dC, st_works_of]
  intro r0 hr0
  refine ⟨by simp, nkI [], ok_nkI [], (kD_nkI []).symm, gu_same, by simp, fun a ha => ?_⟩
  rw [gu_gu] at ha ⊢
  have e0 : gu G r0 (dNd K r0 [(nkI [], dI 0)]) = gu G r0 (dNd K r0 (wkD (worksF size cs (ps.take 0)))) := by simp [wkD, worksF]
  rw [e0] at ha ⊢
  obtain ⟨na, ga⟩ := gu_none ha
  simp only [s_gN, ss_0, ss_s]
  rw [s_dSeq]
  refine dfor_w ?_
  simp only [s_iSeqD, s_dVar, gs_0, gs_s]
  refine ⟨fun i δ' G' => ∃ x4, ∃ rs : List Addr, δ' = [some (dI size), some (tupI ps), some (costD cs), some (dR a), x4] ∧ rs.length = i + 1 ∧ i ≤ ps.length ∧ G' a = some (.lst (rs.map dR)) ∧ (∀ j r, rs[j]? = some r → r ≠ a ∧ G' r = some (dNd K r (wkD (worksF size cs (ps.take j))))) ∧ Le G G' ∧ rs.Nodup ∧ (∀ r ∈ rs, G r = none),
    ⟨none, [r0], rfl, rfl, by omega, gu_same, fun j r hr => ?_, (Le.new hr0).trans (Le.new ha), by simp, by simpa using hr0⟩, fun _ _ _ _ => trivial, ?_, ?_⟩
  · cases j with
    | zero =>
      have : r = r0 := by simpa using hr.symm
      subst this
      exact ⟨Ne.symm na, by rw [gu_ne (Ne.symm na), gu_same]⟩
    | succ j => simp at hr
  · rintro i x δ' G' hx ⟨x4, rs, rfl, hrl, hil, hGa, hrs, hle, hnd, hnn⟩
    obtain ⟨p, hp, rfl⟩ := ints_get hx
    have hi := (List.getElem?_eq_some_iff.mp hp).1
    have hp9 := h9 p (List.mem_of_getElem? hp)
    have hne : rs ≠ [] := by intro e; rw [e] at hrl; simp at hrl
    obtain ⟨rr, r, e⟩ : ∃ rr r, rs = rr ++ [r] := ⟨rs.dropLast, rs.getLast hne, (List.dropLast_concat_getLast hne).symm⟩
    subst e
    have hrr : rr.length = i := by simpa using hrl
    obtain ⟨nra, hr⟩ := hrs i r (by rw [← hrr]; simp)
    simp
    refine ⟨.inl ⟨rfl, _, hGa⟩, _, hGa, dR r, by rw [List.map_append]; exact at_last _ _, ?_⟩
    refine ⟨cs, p, rfl, ok, hp9.1, hp9.2, ?_⟩
    refine ⟨size, r, _, p, costF cs p, rfl, hr, works_ok hs fun q hq => h9 q (List.mem_of_mem_take hq), hs, hs6, hp9.1, hp9.2, fun q hq => ?_⟩
    have nq : q ≠ a := fun e => by rw [e, hGa] at hq; cases hq
    simp
    refine ⟨_, by rw [gu_ne (Ne.symm nq)]; exact hGa, ?_, ?_⟩
    · simp
      omega
    · have hqr : q ∉ rr ++ [r] := fun hm => by
        obtain ⟨j, hj⟩ := List.mem_iff_getElem?.mp hm
        rw [(hrs j q hj).2] at hq
        cases hq
      refine ⟨_, Ent.refl _, (rr ++ [r]) ++ [q], ?_, by omega, ?_, fun j s hs => ?_, ?_, ?_, ?_⟩
      · simp; omega
      · rw [gu_same]
        simp
      · by_cases hj : j < (rr ++ [r]).length
        · rw [List.getElem?_append_left hj] at hs
          obtain ⟨n1, n2⟩ := hrs j s hs
          have sq : s ≠ q := fun e => by rw [e, hq] at n2; cases n2
          exact ⟨n1, by rw [gu_ne n1, gu_ne sq]; exact n2⟩
        · rw [List.getElem?_append_right (by omega)] at hs
          have hj2 : j = i + 1 := by
            have := (List.getElem?_eq_some_iff.mp hs).1
            simp at this hj
            omega
          subst hj2
          have : s = q := by
            have e : i + 1 - (rr ++ [r]).length = 0 := by simp; omega
            rw [e] at hs
            simpa using hs.symm
          subst this
          refine ⟨nq, ?_⟩
          rw [gu_ne nq, gu_same, take_at hp, worksF_app]
      · intro b m hb
        have h1 : b ≠ q := fun e => by rw [e, hle.none hq] at hb; cases hb
        have h2 : b ≠ a := fun e => by rw [e, ga] at hb; cases hb
        rw [gu_ne h2, gu_ne h1]
        exact hle _ _ hb
      · rw [List.nodup_append]
        refine ⟨hnd, by simp, fun x hx y hy => ?_⟩
        have : y = q := by simpa using hy
        subst this
        rintro rfl
        exact hqr hx
      · intro x hx
        rcases List.mem_append.mp hx with hx | hx
        · exact hnn x hx
        · have : x = q := by simpa using hx
          rw [this]
          exact hle.none hq
  · rintro δ' G' ⟨x4, rs, rfl, hrl, hil, hGa, hrs, hle, hnd, hnn⟩
    rw [List.length_map] at hrl
    simp
    exact ⟨G', Ent.refl _, hQ a rs G' hrl hGa hrs hle hnd hnn⟩
theorem keys_wkD (w : Wk) : (wkD w).map (fun p => kD p.1) = (w.map (·.1)).map tupI := by
  unfold wkD
  rw [List.map_map, List.map_map]
  exact List.map_congr_left fun p _ => kD_nkI p.1
theorem pyk_wkD (w : Wk) : (wkD w).map (fun p => py (kD p.1)) = pys ((w.map (·.1)).map tupI) := by
  rw [← keys_wkD, pys_map, List.map_map]
  rfl
theorem wk_depth {w : Wk} : ∀ p ∈ wkD w, (py (kD p.1)).depth ≤ 9 := by
  intro p hp
  obtain ⟨q, _, rfl⟩ := List.mem_map.mp hp
  rw [kD_nkI]
  show (PyData.tuple (pys (q.1.map dI))).depth ≤ 9
  rw [PyData.depth, (ints_all q.1).2.1]
  omega
theorem step_rest {size spent page : Int} {d : Addr} {w : Wk} {later : List Int} {cs : Costs} {q : List Int × Int} (hd : IsNd K G d (wkD w)) (wf : WkOk size w) (hne : w.length ≤ 1 ∨ ∀ q ∈ w, q.1 ≠ []) (hs : 1 ≤ size) (hs6 : size ≤ 6) (hp0 : 0 ≤ page) (hp9 : page ≤ 9) (ok : CostOk cs) (hl10 : later.length ≤ 10)
    (hq : q ∈ w) (hm : page ∉ q.1 ∧ later ∈ movesF size q.1 page ∧ spent = q.2 + costF cs page) (hQ : ∀ q gone, q ∈ w → Back size page (costF cs page) q later spent gone → QD (.tup [tupI q.1, eOpt gone]) G) :
    t_step_back_3 K (excD K ED) (retD K QD) (startD N_step_back [dI size, dR d, dI spent, tupI later, dI page, costD cs]) G := by
  unfold t_step_back_3
  rw [s_dSeq]
  refine dfor_w ?_
  simp only [s_iLstD, s_dBi, s_dSortN, s_dVar, s_dCons, s_dNil, gs_0, gs_s, st_step_back]
  refine ⟨_, hd, ?_, wk_depth, fun p hp => ?_⟩
  · rw [pyk_wkD]
    rcases hne with h | h
    · exact .inl (by simpa [wkD] using h)
    · refine .inr (sortable_tups fun l hl => ?_)
      obtain ⟨x, hx, rfl⟩ := List.mem_map.mp hl
      exact h x hx
  have hperm : (((wkD w).map fun p => kD p.1).mergeSort (PySem.W.dataLe false py)).Perm ((wkD w).map fun p => kD p.1) := List.mergeSort_perm _ _
  generalize hS : ((wkD w).map fun p => kD p.1).mergeSort (PySem.W.dataLe false py) = S at hperm
  have hmem : ∀ x, x ∈ S ↔ ∃ q ∈ w, x = tupI q.1 := fun x => by
    rw [hperm.mem_iff, keys_wkD, List.map_map, List.mem_map]
    constructor
    · rintro ⟨q, h1, h2⟩; exact ⟨q, h1, h2.symm⟩
    · rintro ⟨q, h1, h2⟩; exact ⟨q, h1, h2.symm⟩
  refine ⟨S, gu_same, fun i δ' G' => ∃ x6 x7 x8, δ' = [some (dI size), some (dR d), some (dI spent), some (tupI later), some (dI page), some (costD cs), x6, x7, x8] ∧ G' = gu G p (.lst S) ∧ ∀ q ∈ w, tupI q.1 ∈ S.take i → ¬ (page ∉ q.1 ∧ later ∈ movesF size q.1 page ∧ spent = q.2 + costF cs page),
    ⟨none, none, none, rfl, rfl, by simp⟩, fun i δ' G' h => ?_, ?_, ?_⟩
  · obtain ⟨_, _, _, _, rfl, _⟩ := h
    exact gu_same
  · rintro i x δ' G' hx ⟨x6, x7, x8, rfl, rfl, hno⟩
    obtain ⟨r, hr, rfl⟩ := (hmem x).mp (List.mem_of_getElem? hx)
    have hval : valW w r.1 = some r.2 := mem_valW wf.nd hr
    have go : ¬ (page ∉ r.1 ∧ later ∈ movesF size r.1 page ∧ spent = r.2 + costF cs page) → ∀ x7 x8, ∃ G3, Ent K (gu G p (.lst S)) G3 ∧ (fun i δ' G' => ∃ x6 x7 x8, δ' = [some (dI size), some (dR d), some (dI spent), some (tupI later), some (dI page), some (costD cs), x6, x7, x8] ∧ G' = gu G p (.lst S) ∧ ∀ q ∈ w, tupI q.1 ∈ S.take i → ¬ (page ∉ q.1 ∧ later ∈ movesF size q.1 page ∧ spent = q.2 + costF cs page)) (i + 1) [some (dI size), some (dR d), some (dI spent), some (tupI later), some (dI page), some (costD cs), some (tupI r.1), x7, x8] G3 := by
      intro hn x7 x8
      refine ⟨_, Ent.refl _, _, _, _, rfl, rfl, fun q hq hm => ?_⟩
      rw [take_at hx] at hm
      rcases List.mem_append.mp hm with hm | hm
      · exact hno q hq hm
      · have e : tupI q.1 = tupI r.1 := by simpa using hm
        have e : q.1 = r.1 := by
          have e2 : q.1.map dI = r.1.map dI := by injection e
          exact List.map_inj_right (fun a b e => by injection e with e; injection e) |>.mp e2
        have : q = r := by
          have h1 := mem_valW wf.nd (l := q.1) (c := q.2) hq
          rw [e, hval] at h1
          exact Prod.ext e (Option.some.inj h1).symm
        rw [this]
        exact hn
    have hdp : IsNd K (gu G p (.lst S)) d (wkD w) := hd.le (Le.new hp)
    have hr10 : r.1.length ≤ 10 := by have := (wf.ok r hr).len; omega
    simp only [s_gN, ss_0, ss_s, s_dSeq, s_dIfS, s_dAnd, s_dTest, s_dOp, s_dVar, gs_0, gs_s]
    show dInF not (dI page) (tupI r.1) _ _
    refine ⟨rfl, flat_ints _, ?_⟩
    rw [inD_ints]
    refine ⟨fun h => ?_, fun h => ⟨fun h => (by cases h), fun _ => go (fun h2 => by simp at h; exact h2.1 h) _ _⟩⟩
    have h : page ∉ r.1 := by simpa using h
    refine ⟨_, nkI r.1, dI r.2, hdp, ok_nkI _, (kD_nkI _).symm, by rw [val_wkD, hval]; rfl, ?_⟩
    simp only [s_dCall, s_dCons, s_dNil, s_dVar, gs_0, gs_s]
    refine ⟨cs, page, rfl, ok, hp0, hp9, ?_⟩
    simp only [s_dAdd, s_dEqF, id]
    refine ⟨fun h2 => ?_, fun h2 => ⟨fun h => (by cases h), fun _ => go (fun h3 => by simp at h2; exact h2 h3.2.2.symm) _ _⟩⟩
    have h2 : r.2 + costF cs page = spent := by simpa using h2
    refine ⟨size, r.1, page, rfl, hr10, fun m hm2 => ?_⟩
    refine inDF_lists gu_same ?_
    obtain ⟨mp, _⟩ := gu_none hm2
    refine ⟨fun h3 => ?_, fun h3 => ?_⟩
    · have h3 : later ∈ movesF size r.1 page := by simpa using h3
      have hQ := hQ r ((r.1.filter fun x => decide (x ∉ later)).head?) hr (.inr ⟨h, h2, h3, rfl⟩)
      generalize hG1 : gu (gu G p (.lst S)) m (.lst ((movesF size r.1 page).map tupI)) = G1
      have hle : Le G G1 := by rw [← hG1]; exact (Le.new hp).trans (Le.new hm2)
      rw [s_dAsg]
      refine dlc_pure (r.1.map dI) id (fun d => match d with | .at (.int x) => decide (x ∉ later) | _ => false) (fun R h => ?_) (by rw [List.length_map, zL_val]; omega) ?_ ?_
      · simp
        exact h _ fun _ _ _ => trivial
      · intro u hu x hx acc Qt Qf q1 q2
        obtain ⟨y, _, rfl⟩ := List.mem_map.mp hx
        simp only [s_gN, wsAll_c, wsAll_n, ws_0, ws_s, ss_0, ss_s, s_dTest, s_dOp, s_dVar, gs_0, gs_s]
        show dInF not (dI y) (tupI later) _ _
        refine ⟨rfl, flat_ints _, ?_⟩
        rw [inD_ints]
        by_cases e : y ∈ later
        · simp [e] at q2 ⊢
          exact q2
        · simp [e] at q1 ⊢
          exact q1
      · intro u hu
        have ef : ((r.1.map dI).filter fun d => match d with | .at (.int x) => decide (x ∉ later) | _ => false).map (id : D → D) = (r.1.filter fun x => decide (x ∉ later)).map dI := by
          rw [List.map_id, List.filter_map]
          rfl
        rw [ef]
        generalize (r.1.filter fun x => decide (x ∉ later)) = gl at hQ ⊢
        unfold t_step_back_1
        simp only [s_gN, ss_0, ss_s, s_dRet, s_dTup, s_dCons, s_dNil, s_dVar, gs_0, gs_s, s_dIfE, s_dTest, s_dOp, s_dLst, s_dC]
        refine ⟨by simp, fun v hv => deq_nil (by rw [gu_ne (Ne.symm (gu_none hv).1)]; exact gu_same) gu_same ?_⟩
        have hv1 := gu_none hv
        have en : Ent K (gu (gu G1 u (.lst (gl.map dI))) v (.lst [])) G := Ent.le ((hle.trans (Le.new hu)).trans (Le.new hv))
        cases gl with
        | nil => exact ⟨fun h => by simp at h, fun _ => ⟨by simp, _, en, hQ⟩⟩
        | cons y gl =>
          refine ⟨fun _ => ?_, fun h => by simp at h⟩
          simp
          exact ⟨_, by rw [gu_ne (Ne.symm hv1.1)]; exact gu_same, dI y, atI_z _ _, _, en, hQ⟩
    · obtain ⟨G3, h4, h5⟩ := go (fun h5 => by simp at h3; exact h3 h5.2.1) x7 x8
      exact ⟨G3, (ent_new hm2).trans h4, h5⟩
  · rintro δ' G' ⟨x6, x7, x8, rfl, rfl, hno⟩
    rw [List.take_length] at hno
    exact absurd hm (hno q hq ((hmem _).mpr ⟨q, hq, rfl⟩))
theorem pure_step_back (h : dsp_step_back K ds G QD ED) : t_step_back K (excD K ED) (retD K QD) (startD N_step_back ds) G := by
  obtain ⟨size, d, w, spent, later, page, cs, rfl, hd, wf, hne, hs, hs6, hp0, hp9, ok, hl10, ⟨q, hq, hlead⟩, hQ⟩ := h
  unfold t_step_back
  simp only [s_dSeq, s_dIfS, s_dAnd, s_dTest, s_dOp, s_dGet2N, s_dVar, s_dCons, s_dNil, s_dC, gs_0, gs_s, st_step_back]
  refine ⟨⟨_, hd⟩, _, nkI later, hd, ok_nkI _, (kD_nkI _).symm, ?_⟩
  rw [val_wkD]
  have rest : ¬ (page ∈ later ∧ (later, spent) ∈ w) → t_step_back_3 K (excD K ED) (retD K QD) (startD N_step_back [dI size, dR d, dI spent, tupI later, dI page, costD cs]) G := fun hn => by
    rcases hlead with ⟨h1, h2⟩ | ⟨h1, h2, h3⟩
    · exact absurd ⟨by rw [← h2] at h1; exact h1, by rw [h2]; exact hq⟩ hn
    · exact step_rest hd wf hne hs hs6 hp0 hp9 ok hl10 hq ⟨h1, h2, h3⟩ hQ
  refine deq_optI ?_
  refine ⟨fun h => ?_, fun h => ⟨fun h2 => (by cases h2), fun _ => rest fun h2 => ?_⟩⟩
  · have h : valW w later = some spent := by simpa using h
    refine ⟨rfl, flat_ints _, ?_⟩
    rw [inD_ints]
    refine ⟨fun h2 => ?_, fun h2 => rest fun h3 => ?_⟩
    · have h2 : page ∈ later := by simpa using h2
      simp only [s_dRet, s_dTup, s_dCons, s_dNil, s_dVar, s_dC, gs_0, gs_s]
      refine ⟨by simp, ret_same (K := K) (hQ (later, spent) none (valW_mem h) (.inl ⟨h2, rfl, rfl⟩))⟩
    · simp at h2
      exact h2 h3.1
  · simp at h
    exact h (mem_valW wf.nd h2.2)
end
end Cb

set_option Elab.async false
set_option linter.all false
set_option maxRecDepth 100000
set_option maxHeartbeats 4000000
/-! What the program's defs compute: the best that knows all. -/
namespace Cb
open PySem PySem.Spec PyProof.Rows L2 Dl
/-- a way through the works, from an ask on to the end -/
inductive Trail (size : Int) (cs : Costs) (ps : List Int) (fin : List Int × Int) : Nat → List Int × Int → List (Option Int) → Prop
  | last : Trail size cs ps fin ps.length fin []
  | back {i : Nat} {q q' : List Int × Int} {gs : List (Option Int)} {p : Int} {gone : Option Int} (h : Trail size cs ps fin (i + 1) q' gs) (hp : ps[i]? = some p) (hq : q ∈ worksF size cs (ps.take i)) (b : Back size p (costF cs p) q q'.1 q'.2 gone) : Trail size cs ps fin i q (gone :: gs)
theorem Trail.len {size : Int} {cs : Costs} {ps : List Int} {fin : List Int × Int} {i : Nat} {q : List Int × Int} {gs : List (Option Int)} (h : Trail size cs ps fin i q gs) : gs.length + i = ps.length := by
  induction h with
  | last => simp
  | back h hp hq b ih => rw [List.length_cons]; omega
theorem Trail.mem {size : Int} {cs : Costs} {ps : List Int} {fin : List Int × Int} {i : Nat} {q : List Int × Int} {gs : List (Option Int)} (hf : fin ∈ worksF size cs ps) (h : Trail size cs ps fin i q gs) : q ∈ worksF size cs (ps.take i) := by
  cases h with
  | last => rw [List.take_length]; exact hf
  | back h hp hq b => exact hq
theorem moves_ne {size : Int} {held : List Int} {page : Int} (hs : 1 ≤ size) : movesF size held page ≠ [] := by
  unfold movesF
  split
  · simp
  · rename_i h
    cases held with
    | nil => simp at h; omega
    | cons x l => simp
theorem behind_ne {size page cost : Int} {w : Wk} (hs : 1 ≤ size) (h : w ≠ []) : behindF size w page cost ≠ [] := by
  cases w with
  | nil => exact absurd rfl h
  | cons p w =>
    have L := least_behind (size := size) (page := page) (cost := cost) (w := p :: w)
    intro e
    rw [e] at L
    by_cases hm : page ∈ p.1
    · obtain ⟨c, h1, _⟩ := L.le p ⟨p, by simp, .inl ⟨hm, rfl⟩⟩
      simp at h1
    · obtain ⟨l, hl⟩ := List.exists_mem_of_ne_nil _ (moves_ne (held := p.1) (page := page) hs)
      obtain ⟨c, h1, _⟩ := L.le (l, p.2 + cost) ⟨p, by simp, .inr ⟨hm, hl, rfl⟩⟩
      simp at h1
theorem works_neG {size : Int} {cs : Costs} (hs : 1 ≤ size) : ∀ {ps : List Int} {w : Wk}, w ≠ [] → ps.foldl (fun w p => behindF size w p (costF cs p)) w ≠ []
  | [], _, h => h
  | p :: ps, _, h => works_neG hs (ps := ps) (behind_ne hs h)
theorem works_ne {size : Int} {cs : Costs} (hs : 1 ≤ size) {ps : List Int} : worksF size cs ps ≠ [] := works_neG hs (by simp)
/-- ahead of each ask but the first nothing is empty -/
theorem works_keys {size : Int} {cs : Costs} (hs : 1 ≤ size) {ps : List Int} (h9 : ∀ p ∈ ps, 0 ≤ p ∧ p ≤ 9) : (worksF size cs ps).length ≤ 1 ∨ ∀ q ∈ worksF size cs ps, q.1 ≠ [] := by
  rcases List.eq_nil_or_concat ps with rfl | ⟨qs, p, rfl⟩
  · exact .inl (by simp [worksF])
  · refine .inr fun q hq e => ?_
    rw [List.concat_eq_append] at h9 hq
    rw [worksF_app] at hq
    have hp := h9 p (by simp)
    have wk := works_ok (cs := cs) hs fun x hx => h9 x (List.mem_append_left _ hx)
    obtain ⟨r, hr, hl⟩ := least_behind.from_ q hq
    have := (leads_ok hs hp (wk.ok r hr) hl).2
    rw [e] at this
    cases this
def dsp_cheapest (K : PySem.W.Frag) : DSp := fun ds G Q _ => ∃ size ps cs, ds = [dI size, tupI ps, costD cs] ∧ 1 ≤ size ∧ size ≤ 6 ∧ ps.length ≤ 60 ∧ (∀ p ∈ ps, 0 ≤ p ∧ p ≤ 9) ∧ CostOk cs ∧
  ∀ fin q0 gs, fin ∈ worksF size cs ps → (∀ q ∈ worksF size cs ps, fin.2 ≤ q.2) → Trail size cs ps fin 0 q0 gs → ∀ p, G p = none → Q (.tup [dI fin.2, dR p]) (gu G p (.lst (gs.map eOpt)))
abbrev N_cheapest : List Str := ["size", "stream", "weights", "works", "total", "held", "one", "found", "number", "gone"]
abbrev ps_cheapest : List Str := ["size", "stream", "weights"]
@[simp] theorem st_cheapest (x0 x1 x2 : D) : startD N_cheapest [x0, x1, x2] = [some x0, some x1, some x2, none, none, none, none, none, none, none] := rfl
def t_cheapest_1 (K : PySem.W.Frag) (WD : XDW) : TDS := (dDrop (dBm "list" dAppend (dVar 7) (dCons (dVar 9) dNil)))
def t_cheapest_2 (K : PySem.W.Frag) (WD : XDW) : TDS := (dRet (dTup (dCons (dVar 4) (dCons (dRev (dVar 7)) dNil))))
def t_cheapest_3 (K : PySem.W.Frag) (WD : XDW) : TDS := (dSeq (dFor K (iDownD (dCons (dOp (dI0 fun i j => .int (i - j)) (dBi dLen (dCons (dVar 1) dNil)) (dC (dI 1))) (dCons (dNeg (dC (dI 1))) (dCons (dNeg (dC (dI 1))) dNil)))) (gN 8) (dSeq (dAsg (dCall (dsp_step_back K) WD (dCons (dVar 0) (dCons (dOp dIx (dVar 3) (dVar 8)) (dCons (dOp (dGetN K) (dOp dIx (dVar 3) (dOp dAdd (dVar 8) (dC (dI 1)))) (dVar 5)) (dCons (dVar 5) (dCons (dOp dIx (dVar 1) (dVar 8)) (dCons (dVar 2) dNil))))))) (gT 2 (gC (gN 5) (gC (gN 9) gE))))
  (t_cheapest_1 K WD)))
  (t_cheapest_2 K WD))
def t_cheapest_4 (K : PySem.W.Frag) (WD : XDW) : TDS := (dSeq (dAsg (dLst dNil) (gN 7))
  (t_cheapest_3 K WD))
def t_cheapest_5 (K : PySem.W.Frag) (WD : XDW) : TDS := (dSeq (dAsg (dBi (dBest PySem.W.minD) (dCons (dLc K (iKysN K (dOp dIx (dVar 3) (dNeg (dC (dI 1))))) (gN 6) (dTest (dOp dEq (dOp (dGetN K) (dOp dIx (dVar 3) (dNeg (dC (dI 1)))) (dVar 6)) (dVar 4))) (dVar 6) [6]) dNil)) (gN 5))
  (t_cheapest_4 K WD))
def t_cheapest_6 (K : PySem.W.Frag) (WD : XDW) : TDS := (dSeq (dAsg (dBi (dMinVI K) (dCons (dVals K (dOp dIx (dVar 3) (dNeg (dC (dI 1))))) dNil)) (gN 4))
  (t_cheapest_5 K WD))
def t_cheapest_7 (K : PySem.W.Frag) (WD : XDW) : TDS := (dSeq (dAsg (dCall (dsp_works_of K) WD (dCons (dVar 0) (dCons (dVar 1) (dCons (dVar 2) dNil)))) (gN 3))
  (t_cheapest_6 K WD))
def t_cheapest_8 (K : PySem.W.Frag) (WD : XDW) : TDS := (dSeq (dDrop (dCall (dsp_need_costs K) WD (dCons (dVar 2) dNil)))
  (t_cheapest_7 K WD))
def t_cheapest_9 (K : PySem.W.Frag) (WD : XDW) : TDS := (dSeq (dDrop (dCall (dsp_need_stream K) WD (dCons (dVar 1) dNil)))
  (t_cheapest_8 K WD))
def t_cheapest (K : PySem.W.Frag) (WD : XDW) : TDS := (dSeq (dDrop (dCall (dsp_need_size K) WD (dCons (dVar 0) dNil)))
  (t_cheapest_9 K WD))
section
variable {K : PySem.W.Frag} {ds : List D} {G : GH} {QD : DK} {ED : XD}
theorem len_cheapest {Q : DK} {E : XD} (h : dsp_cheapest K ds G Q E) : ds.length = ps_cheapest.length := by
  obtain ⟨_, _, _, rfl, _⟩ := h; rfl
theorem best_lists {f : PyData → List PyData → PyData} {G : GH} {a : Addr} {ls : List (List Int)} {Q : DK} (h : G a = some (.lst (ls.map tupI))) (hn : ls ≠ []) (q : ∀ l ∈ ls, Q (tupI l) G) : dBest f [dR a] G Q := by
  cases ls with
  | nil => exact absurd rfl hn
  | cons x ls =>
    obtain ⟨h1, h2, h3⟩ := lists_all (x :: ls)
    refine ⟨tupI x, ls.map tupI, h, h3, ⟨?_, ?_⟩, by rw [List.map_cons] at h2; omega, h1, fun d hd e => ?_⟩
    · have e : pys ((x :: ls).map tupI) = (x :: ls).map fun l => .tuple (l.map .int) := by
        rw [pys_map, List.map_map]
        refine List.map_congr_left fun l _ => ?_
        show PyData.tuple (pys (l.map dI)) = _
        rw [pys_map, List.map_map]
        rfl
      rw [List.map_cons] at e
      rw [e]
      exact PySem.W.AllAlike.of (enc := fun l : List Int => PyData.tuple (l.map .int)) (bs := x :: ls) fun b c => PySem.W.alike_ints b c
    · intro y hy
      have hy : y ∈ pys ((x :: ls).map tupI) := hy
      rw [pys_map, List.map_map] at hy
      obtain ⟨l, _, rfl⟩ := List.mem_map.mp hy
      simp [py]
    · obtain ⟨l, hl, rfl⟩ := List.mem_map.mp (show d ∈ (x :: ls).map tupI from hd)
      exact q l hl
theorem at_natA {α : Type} {xs : List α} {n : Nat} {x : α} (h : xs[n]? = some x) : atI xs (n : Int) = some x := Cb.atI_nat h
/-! the loop -/
theorem cheap_loop {size : Int} {ps : List Int} {cs : Costs} {a : Addr} {rs : List Addr} {fin : List Int × Int} {G' : GH} {x6 : Option D} (hs : 1 ≤ size) (hs6 : size ≤ 6) (hl : ps.length ≤ 60) (h9 : ∀ p ∈ ps, 0 ≤ p ∧ p ≤ 9) (ok : CostOk cs)
    (hrl : rs.length = ps.length + 1) (hGa : G' a = some (.lst (rs.map dR))) (hrs : ∀ j r, rs[j]? = some r → IsNd K G' r (wkD (worksF size cs (ps.take j)))) (hle : Le G G')
    (hf : fin ∈ worksF size cs ps) (hmin : ∀ q ∈ worksF size cs ps, fin.2 ≤ q.2)
    (hQ : ∀ fin q0 gs, fin ∈ worksF size cs ps → (∀ q ∈ worksF size cs ps, fin.2 ≤ q.2) → Trail size cs ps fin 0 q0 gs → ∀ p, G p = none → QD (.tup [dI fin.2, dR p]) (gu G p (.lst (gs.map eOpt)))) :
    t_cheapest_4 K (excD K ED) (retD K QD) [some (dI size), some (tupI ps), some (costD cs), some (dR a), some (dI fin.2), some (tupI fin.1), x6, none, none, none] G' := by
  unfold t_cheapest_4
  simp only [s_dSeq, s_dAsg, s_dLst, s_dNil, s_gN, ss_0, ss_s]
  refine ⟨by simp, fun f hf0 => ?_⟩
  unfold t_cheapest_3
  rw [s_dSeq]
  refine dfor_w ?_
  simp only [s_iDownD, s_dOp, s_dBi, s_dLen, s_dCons, s_dNil, s_dVar, s_dC, s_dNeg, s_dI0, gs_0, gs_s, List.length_map]
  refine ⟨trivial, by omega, ?_⟩
  have fa : f ≠ a := fun e => by rw [e, hGa] at hf0; cases hf0
  refine ⟨fun i δ' G1 => ∃ x6 x8 x9, ∃ q gs, δ' = [some (dI size), some (tupI ps), some (costD cs), some (dR a), some (dI fin.2), some (tupI q.1), x6, some (dR f), x8, x9] ∧ G1 = gu G' f (.lst (gs.reverse.map eOpt)) ∧ Trail size cs ps fin (ps.length - i) q gs ∧ i ≤ ps.length,
    ⟨x6, none, none, fin, [], rfl, by simp, by rw [Nat.sub_zero]; exact .last, by omega⟩, fun _ _ _ _ => trivial, ?_, ?_⟩
  · rintro i x δ' G1 hx ⟨x6, x8, x9, q, gs, rfl, rfl, tr, hi⟩
    obtain ⟨hil, rfl⟩ := dwD_of hx
    have hn : (ps.length : Int) - 1 - (-1) = ps.length := by omega
    have hil : i < ps.length := by omega
    obtain ⟨n, hn⟩ : ∃ n, ps.length = n + 1 + i := ⟨ps.length - i - 1, by omega⟩
    have en : ((ps.length : Int) - 1 - i) = (n : Int) := by omega
    rw [en]
    have e1 : ps.length - i = n + 1 := by omega
    have e2 : ps.length - (i + 1) = n := by omega
    rw [e1] at tr
    obtain ⟨p, hp⟩ : ∃ p, ps[n]? = some p := ⟨ps[n]'(by omega), List.getElem?_eq_getElem (by omega)⟩
    obtain ⟨r, hr⟩ : ∃ r, rs[n]? = some r := ⟨rs[n]'(by omega), List.getElem?_eq_getElem (by omega)⟩
    obtain ⟨r', hr'⟩ : ∃ r, rs[n + 1]? = some r := ⟨rs[n + 1]'(by omega), List.getElem?_eq_getElem (by omega)⟩
    have hm := tr.mem hf
    have wk := works_ok (cs := cs) hs (ps := ps.take n) fun x hx => h9 x (List.mem_of_mem_take hx)
    have wk' := works_ok (cs := cs) hs (ps := ps.take (n + 1)) fun x hx => h9 x (List.mem_of_mem_take hx)
    have hval : valW (worksF size cs (ps.take (n + 1))) q.1 = some q.2 := mem_valW wk'.nd hm
    have nd : ∀ {j r}, rs[j]? = some r → IsNd K (gu G' f (.lst (gs.reverse.map eOpt))) r (wkD (worksF size cs (ps.take j))) := fun {j r} h => (hrs j r h).le (Le.new hf0)
    have hGa1 : (gu G' f (.lst (gs.reverse.map eOpt))) a = some (.lst (rs.map dR)) := by rw [gu_ne (Ne.symm fa)]; exact hGa
    have hp9 := h9 p (List.mem_of_getElem? hp)
    simp only [s_gN, ss_0, ss_s, s_dSeq, s_dAsg, s_dCall, s_dCons, s_dNil, s_dOp, s_dVar, s_dC, s_dIx, gs_0, gs_s, s_dAdd]
    refine ⟨_, dR r, hGa1, at_natA (by rw [List.getElem?_map, hr]; rfl), _, dR r', hGa1, ?_, ?_⟩
    · have : ((n : Int) + 1) = ((n + 1 : Nat) : Int) := by omega
      rw [this]
      exact at_natA (by rw [List.getElem?_map, hr']; rfl)
    refine ⟨_, nkI q.1, dI q.2, nd hr', ok_nkI _, (kD_nkI _).symm, by rw [val_wkD, hval]; rfl, ?_⟩
    refine ⟨dI p, at_natA (by rw [List.getElem?_map, hp]; rfl), ?_⟩
    have hq10 : q.1.length ≤ 10 := by have := (wk'.ok q hm).len; omega
    have hlead : ∃ x ∈ worksF size cs (ps.take n), Leads size p (costF cs p) x (q.1, q.2) := by
      rw [take_at hp, worksF_app] at hm
      exact least_behind.from_ q hm
    refine ⟨size, r, _, q.2, q.1, p, cs, rfl, nd hr, wk, works_keys hs fun x hx => h9 x (List.mem_of_mem_take hx), hs, hs6, hp9.1, hp9.2, ok, hq10, hlead, fun q0 gone hq0 hb => ?_⟩
    simp only [s_gT, s_gC, s_gE, s_gN, ss_0, ss_s]
    unfold t_cheapest_1
    simp
    refine ⟨.inl ⟨rfl, _, gu_same⟩, ?_, ?_⟩
    · have := tr.len
      simp
      omega
    · refine ⟨_, Ent.refl _, _, _, _, q0.1, ⟨rfl, rfl, rfl, rfl⟩, q0.2, gone :: gs, ?_, ?_, by omega⟩
      · simp
      · rw [e2]; exact .back tr hp hq0 hb
  · rintro δ' G1 ⟨x6, x8, x9, q, gs, rfl, rfl, tr, hi⟩
    have hz : ps.length - (dwD (↑ps.length - 1) ((ps.length : Int) - 1 - -1).toNat).length = 0 := by rw [dwD_len]; omega
    rw [hz] at tr
    unfold t_cheapest_2
    simp only [s_dRet, s_dTup, s_dCons, s_dNil, s_dVar, s_dRev, gs_0, gs_s]
    refine ⟨_, gu_same, fun p hp => ⟨by simp, ?_⟩⟩
    rw [← List.map_reverse, List.reverse_reverse]
    obtain ⟨pf, hp⟩ := gu_none hp
    have hQ := hQ fin q gs hf hmin tr p (hle.none hp)
    refine ⟨_, ?_, hQ⟩
    rw [gu_comm (Ne.symm pf)]
    exact (Ent.le (Le.new (by rw [gu_ne (Ne.symm pf)]; exact hf0))).trans (Ent.le (Le.gu hle))
def intsOf : List D → List Int
  | .at (.int i) :: r => i :: intsOf r
  | _ => []
theorem intsOf_map : ∀ l : List Int, intsOf (l.map dI) = l
  | [] => rfl
  | i :: l => by rw [List.map_cons, intsOf, intsOf_map l]
theorem pure_cheapest (h : dsp_cheapest K ds G QD ED) : t_cheapest K (excD K ED) (retD K QD) (startD N_cheapest ds) G := by
  obtain ⟨size, ps, cs, rfl, hs, hs6, hl_, h9, ok, hQ⟩ := h
  unfold t_cheapest
  simp only [s_dSeq]
  simp only [s_dDrop, s_dCall, s_dCons, s_dNil, s_dVar, gs_0, gs_s, st_cheapest]
  refine ⟨size, rfl, fun _ => ?_, fun h => absurd ⟨hs, hs6⟩ h⟩
  unfold t_cheapest_9
  simp only [s_dSeq]
  simp only [s_dDrop, s_dCall, s_dCons, s_dNil, s_dVar, gs_0, gs_s]
  refine ⟨ps, rfl, hl_, h9, ?_⟩
  unfold t_cheapest_8
  simp only [s_dSeq]
  simp only [s_dDrop, s_dCall, s_dCons, s_dNil, s_dVar, gs_0, gs_s]
  refine ⟨cs, rfl, ok, ?_⟩
  unfold t_cheapest_7
  simp only [s_dSeq]
  simp only [s_dAsg, s_dCall, s_dCons, s_dNil, s_dVar, gs_0, gs_s]
  refine ⟨size, ps, cs, rfl, hs, hs6, hl_, h9, ok, fun a rs G' hrl hGa hrs hle hnd hnn => ?_⟩
  simp only [s_gN, ss_0, ss_s]
  obtain ⟨r, hr⟩ : ∃ r, rs[ps.length]? = some r := ⟨rs[ps.length]'(by omega), List.getElem?_eq_getElem (by omega)⟩
  have hlast : atI (rs.map dR) (-1) = some (dR r) := by
    have hne : rs ≠ [] := by intro e; rw [e] at hrl; simp at hrl
    obtain ⟨rr, x, e⟩ : ∃ rr x, rs = rr ++ [x] := ⟨rs.dropLast, rs.getLast hne, (List.dropLast_concat_getLast hne).symm⟩
    subst e
    have : rr.length = ps.length := by simpa using hrl
    rw [← this] at hr
    have : x = r := by simpa using hr
    subst this
    rw [List.map_append]
    exact at_last _ _
  obtain ⟨nra, hGr⟩ := hrs _ _ hr
  rw [List.take_length] at hGr
  have wk := works_ok (cs := cs) hs h9
  have wne := works_ne (cs := cs) hs (ps := ps)
  unfold t_cheapest_6
  simp only [s_dSeq]
  simp only [s_dAsg, s_dBi, s_dCons, s_dNil, s_dVals, s_dOp, s_dIx, s_dNeg, s_dC, s_dVar, gs_0, gs_s, s_dMinVI]
  refine ⟨_, dR r, hGa, hlast, ⟨_, .inl hGr⟩, fun v hv => ?_⟩
  have hle1 : Le G' (gu G' v (.raw (VwO v r))) := Le.new hv
  refine ⟨r, _, (worksF size cs ps).map (·.2), gu_same, .inl (hle1 _ _ hGr), by simp [wkD, Function.comp_def], by simpa using wne, fun m hm hmin => ?_⟩
  simp only [s_gN, ss_0, ss_s]
  generalize gu G' v (.raw (VwO v r)) = G1 at hle1
  have hGa1 := hle1 _ _ hGa
  have hGr1 := hle1 _ _ hGr
  unfold t_cheapest_5
  simp only [s_dSeq]
  simp only [s_dAsg, s_dBi, s_dCons, s_dNil]
  refine dlc_w ?_
  rw [s_iKysN, s_dOp, s_dVar]
  simp only [gs_0, gs_s]
  refine ⟨_, dR r, hGa1, hlast, _, hGr1, fun ob u hu => ?_⟩
  have hzw := wk.len
  refine lc_pure (te := dVar 6) (Q := fun y G1 => dBest PySem.W.minD [y] G1 fun d G1 => gN 5 d [some (dI size), some (tupI ps), some (costD cs), some (dR a), some (dI m), none, none, none, none, none] G1 (t_cheapest_4 K (excD K ED) (retD K QD))) id (fun d => match d with | .tup xs => decide (valW (worksF size cs ps) (intsOf xs) = some m) | _ => false) ?_ ?_ ?_ ?_
  · rw [List.length_map, zL_val]
    unfold wkD
    rw [List.length_map]
    omega
  · intro acc
    have : u ≠ r := (fun e => by rw [e, gu_same] at hu; cases hu)
    rw [gu_ne (Ne.symm this), gu_same]
  · intro x hx acc Qt Qf q1 q2
    rw [keys_wkD, List.map_map] at hx
    obtain ⟨q, hq, rfl⟩ := List.mem_map.mp hx
    have hval : valW (worksF size cs ps) q.1 = some q.2 := mem_valW wk.nd hq
    have hur : u ≠ r := (fun e => by rw [e, gu_same] at hu; cases hu)
    have har : a ≠ r := (fun e => nra e.symm)
    have hua : u ≠ a := (fun e => by rw [e, gu_ne har, hGa1] at hu; cases hu)
    have hGa2 : (gu (gu G1 r (dNdL K r ob (wkD (worksF size cs ps)))) u (.lst acc)) a = some (.lst (rs.map dR)) := by rw [gu_ne (Ne.symm hua), gu_ne har]; exact hGa1
    have hGr2 : (gu (gu G1 r (dNdL K r ob (wkD (worksF size cs ps)))) u (.lst acc)) r = some (dNdL K r ob (wkD (worksF size cs ps))) := by rw [gu_ne (Ne.symm hur), gu_same]
    generalize gu (gu G1 r (dNdL K r ob (wkD (worksF size cs ps)))) u (.lst acc) = G2 at hGa2 hGr2 q1 q2
    simp only [Function.comp_apply, intsOf_map, hval] at q1 q2
    simp only [s_gN, wsAll_c, wsAll_n, ws_0, ws_s, ss_0, ss_s, s_dTest, s_dOp, s_dIx, s_dNeg, s_dC, s_dVar, gs_0, gs_s, Function.comp_apply]
    refine ⟨_, dR r, hGa2, hlast, _, nkI q.1, dI q.2, .inr ⟨ob, hGr2⟩, ok_nkI _, (kD_nkI _).symm, by rw [val_wkD, hval]; rfl, ?_⟩
    simp only [s_dEqF, id]
    by_cases e : q.2 = m
    · simp [e] at q1 ⊢
      exact q1
    · simp [e] at q2 ⊢
      exact q2
  · have ef : (((wkD (worksF size cs ps)).map fun p => kD p.1).filter fun d => match d with | .tup xs => decide (valW (worksF size cs ps) (intsOf xs) = some m) | _ => false).map (id : D → D) = (((worksF size cs ps).map (·.1)).filter fun l => decide (valW (worksF size cs ps) l = some m)).map tupI := by
      rw [List.map_id, keys_wkD, List.filter_map]
      congr 1
      refine List.filter_congr fun l _ => ?_
      simp [intsOf_map]
    rw [ef]
    obtain ⟨q, hq, hqm⟩ := List.mem_map.mp hm
    refine best_lists gu_same ?_ fun l hl => ?_
    · intro e
      have : q.1 ∈ ((worksF size cs ps).map (·.1)).filter fun l => decide (valW (worksF size cs ps) l = some m) := by
        rw [List.mem_filter]
        exact ⟨List.mem_map.mpr ⟨q, hq, rfl⟩, by rw [mem_valW wk.nd (l := q.1) (c := q.2) hq, hqm]; simp⟩
      rw [e] at this
      cases this
    · have hl := (List.mem_filter.mp hl).2
      have hl : valW (worksF size cs ps) l = some m := by simpa using hl
      have hur : u ≠ r := (fun e => by rw [e, gu_same] at hu; cases hu)
      have har : a ≠ r := (fun e => nra e.symm)
      have hua : u ≠ a := (fun e => by rw [e, gu_ne har, hGa1] at hu; cases hu)
      have hu1 : G1 u = none := (gu_none hu).2
      simp only [s_gN, ss_0, ss_s]
      refine cheap_loop (rs := rs) (fin := (l, m)) hs hs6 hl_ h9 ok hrl (by rw [gu_ne (Ne.symm hua), gu_ne har]; exact hGa1) (fun j x hx => ?_) ?_ (valW_mem hl) (fun q hq => hmin _ (List.mem_map.mpr ⟨q, hq, rfl⟩)) hQ
      · obtain ⟨xa, hx1⟩ := hrs j x hx
        have hx1 := hle1 _ _ hx1
        have xu : x ≠ u := fun e => by rw [e, hu1] at hx1; cases hx1
        by_cases e : x = r
        · subst e
          refine .inr ⟨ob, ?_⟩
          rw [gu_ne xu, gu_same]
          have e1 : j = ps.length := by
            have h1 := (List.getElem?_eq_some_iff.mp hx)
            have h2 := (List.getElem?_eq_some_iff.mp hr)
            obtain ⟨h1, h3⟩ := h1
            obtain ⟨h2, h4⟩ := h2
            exact (List.getElem_inj hnd).mp (h3.trans h4.symm)
          rw [e1, List.take_length]
        · refine .inl ?_
          rw [gu_ne xu, gu_ne e]
          exact hx1
      · intro b n hb
        have h1 := hle1 _ _ (hle _ _ hb)
        have bu : b ≠ u := fun e => by rw [e, hu1] at h1; cases h1
        have br : b ≠ r := fun e => by rw [e, hnn r (List.mem_of_getElem? hr)] at hb; cases hb
        rw [gu_ne bu, gu_ne br]
        exact h1
end
end Cb

set_option Elab.async false
set_option linter.all false
set_option maxRecDepth 100000
set_option maxHeartbeats 4000000
/-! Rules: which page goes; what a cache of one page more holds. -/
namespace Cb
open PySem PySem.Spec PyProof.Rows L2 Dl
theorem foldl_maxP : ∀ (xs : List (Int × Int)) (x : Int × Int), x.1 ≤ (xs.foldl (fun a y => if ltP a y then y else a) x).1 ∧ ∀ y ∈ xs, y.1 ≤ (xs.foldl (fun a y => if ltP a y then y else a) x).1
  | [], x => ⟨by simp, by simp⟩
  | z :: xs, x => by
    obtain ⟨h1, h2⟩ := foldl_maxP xs (if ltP x z then z else x)
    have h3 : x.1 ≤ (if ltP x z then z else x).1 ∧ z.1 ≤ (if ltP x z then z else x).1 := by
      by_cases h : ltP x z = true
      · rw [if_pos h]
        unfold ltP at h
        simp at h
        omega
      · rw [if_neg h]
        unfold ltP at h
        simp at h
        omega
    rw [List.foldl_cons]
    refine ⟨by omega, fun y hy => ?_⟩
    rcases List.mem_cons.mp hy with rfl | hy
    · omega
    · exact h2 y hy
theorem maxP_ge {x : Int × Int} {xs : List (Int × Int)} : ∀ y ∈ x :: xs, y.1 ≤ (maxP x xs).1 := fun y hy => by
  obtain ⟨h1, h2⟩ := foldl_maxP xs x
  rcases List.mem_cons.mp hy with rfl | hy
  · exact h1
  · exact h2 y hy
/-- at which place the page that goes stands -/
structure GoneAt (r : Str) (l : List Int) (i : Nat) : Prop where
  lt : i < l.length
  cu : r = "came" ∨ r = "used" → i = 0
  last : r = "last" → i + 1 = l.length
  high : r = "high" → ∀ g, l[i]? = some g → ∀ x ∈ l, x ≤ g
abbrev NoClock (r : Str) : Prop := r = "came" ∨ r = "used" ∨ r = "last" ∨ r = "high"
theorem pages_at {rows : List Row} {i : Nat} (h : i < rows.length) : (rows.map (·.1))[i]? = some (rwA rows i).1 := by
  rw [List.getElem?_map, rw_at h]; rfl
theorem loser_gone {r : Str} {s : Sta} (hr : NoClock r) (h : s.1 ≠ []) : ∃ i, loserF r s [] = some (i, s) ∧ GoneAt r (pagesS s) i := by
  have hl : 0 < s.1.length := List.length_pos_iff.mpr h
  obtain ⟨n, hn⟩ : ∃ n, s.1.length = n + 1 := ⟨s.1.length - 1, by omega⟩
  have pl : (pagesS s).length = n + 1 := by simp [pagesS, hn]
  have hsome : someF s.1 [] = 0 :: (List.range n).map Nat.succ := by rw [someF_nil, hn, List.range_succ_eq_map]
  unfold loserF
  rw [hsome]
  simp only
  rcases hr with rfl | rfl | rfl | rfl
  · exact ⟨0, by simp, by omega, fun _ => rfl, fun h => absurd h (by decide), fun h => absurd h (by decide)⟩
  · exact ⟨0, by simp, by omega, fun _ => rfl, fun h => absurd h (by decide), fun h => absurd h (by decide)⟩
  · refine ⟨n, ?_, by omega, fun h => ?_, fun h => by omega, fun h => absurd h (by decide)⟩
    · rw [if_neg (by decide), if_pos rfl]
      have e : (0 :: (List.range n).map Nat.succ).getLast (by simp) = n := by
        have e2 : 0 :: (List.range n).map Nat.succ = List.range (n + 1) := (List.range_succ_eq_map).symm
        simp only [e2]
        simp
      rw [e]
    · rcases h with h | h <;> exact absurd h (by decide)
  · rw [if_neg (by decide), if_neg (by decide), if_neg (by decide), if_pos rfl]
    generalize hx : ((rwA s.1 0).1, ((0 : Nat) : Int)) = x
    generalize hxs : ((List.range n).map Nat.succ).map (fun (j : Nat) => ((rwA s.1 j).1, (j : Int))) = xs
    have hall : ∀ j, j < n + 1 → ((rwA s.1 j).1, (j : Int)) ∈ x :: xs := fun j hj => by
      cases j with
      | zero => rw [← hx]; simp
      | succ j =>
        refine List.mem_cons_of_mem _ ?_
        rw [← hxs]
        exact List.mem_map.mpr ⟨j + 1, List.mem_map.mpr ⟨j, by simp; omega, rfl⟩, rfl⟩
    have hin : ∃ j, j < n + 1 ∧ maxP x xs = ((rwA s.1 j).1, (j : Int)) := by
      have := maxP_in x xs
      rcases List.mem_cons.mp this with h | h
      · exact ⟨0, by omega, by rw [h, ← hx]⟩
      · rw [← hxs] at h
        obtain ⟨j, hj, e⟩ := List.mem_map.mp h
        obtain ⟨j', hj', rfl⟩ := List.mem_map.mp hj
        have : j' < n := by simpa using hj'
        exact ⟨j' + 1, by omega, by rw [hxs] at e; exact e.symm⟩
    obtain ⟨j, hj, ej⟩ := hin
    have ei : (maxP x xs).2.toNat = j := by rw [ej]; simp
    refine ⟨j, by rw [ei], by omega, fun h => ?_, fun h => absurd h (by decide), fun _ g hg y hy => ?_⟩
    · rcases h with h | h <;> exact absurd h (by decide)
    · have hg : (rwA s.1 j).1 = g := by
        have h2 := pages_at (rows := s.1) (i := j) (by omega)
        have hg : (s.1.map (·.1))[j]? = some g := hg
        rw [h2] at hg
        exact Option.some.inj hg
      obtain ⟨m, hm⟩ := List.mem_iff_getElem?.mp hy
      have hml := (List.getElem?_eq_some_iff.mp hm).1
      have hm2 := pages_at (rows := s.1) (i := m) (by omega)
      have hm : (s.1.map (·.1))[m]? = some y := hm
      rw [hm2] at hm
      have := maxP_ge _ (hall m (by omega))
      rw [ej] at this
      have hy2 : (rwA s.1 m).1 = y := Option.some.inj hm
      simp only at this
      omega
/-- what an ask does to the pages -/
structure PStep (r : Str) (size : Int) (l : List Int) (p : Int) (l' : List Int) (b : Bool) : Prop where
  hit : p ∈ l → b = true ∧ l' = if r = "used" ∨ r = "last" then l.erase p ++ [p] else l
  room : p ∉ l → (l.length : Int) < size → b = false ∧ l' = l ++ [p]
  full : p ∉ l → ¬ (l.length : Int) < size → b = false ∧ ∃ i, GoneAt r l i ∧ l' = l.eraseIdx i ++ [p]
theorem filt_erase {l : List Int} (h : l.Nodup) (p : Int) : (l.filter fun x => decide (x ≠ p)) = l.erase p := filter_ne h p
theorem pg_step {r : Str} {size : Int} {s : Sta} {p : Int} (hr : NoClock r) (hs : 1 ≤ size) (w : SOk r size s) : PStep r size (pagesS s) p (pagesS (stepF r size s p).1) (stepF r size s p).2.1 := by
  have pl : s.1.length = (pagesS s).length := by simp [pagesS]
  refine ⟨fun h => ?_, fun h hl => ?_, fun h hl => ?_⟩
  · have e : stepF r size s p = (hitF r s p, true, none) := by unfold stepF; rw [if_pos h]
    rw [e]
    refine ⟨rfl, ?_⟩
    unfold hitF
    by_cases hu : r = "used" ∨ r = "last"
    · rw [if_pos hu, if_pos hu]
      show List.map (fun x : Row => x.1) (s.1.filter _ ++ [(p, 0)]) = _
      rw [List.map_append]
      have e : (s.1.filter fun x => decide (x.1 ≠ p)).map (fun x : Row => x.1) = (pagesS s).filter fun x => decide (x ≠ p) := by
        unfold pagesS
        rw [List.filter_map]
        rfl
      rw [e, filt_erase w.nd]
      rfl
    · rw [if_neg hu, if_neg hu]
      have h1 : r ≠ "often" := by rintro rfl; rcases hr with h | h | h | h <;> exact absurd h (by decide)
      have h2 : r ≠ "clock" := by rintro rfl; rcases hr with h | h | h | h <;> exact absurd h (by decide)
      rw [if_neg h1, if_neg h2]
  · have hl' : (s.1.length : Int) < size := by rw [pl]; exact hl
    have e : stepF r size s p = ((s.1 ++ [(p, markF r)], s.2), false, none) := by
      unfold stepF missF; rw [if_neg h, if_pos hl']
    rw [e]
    exact ⟨rfl, by simp [pagesS]⟩
  · have hl' : ¬ (s.1.length : Int) < size := by rw [pl]; exact hl
    have hne : s.1 ≠ [] := by intro e; rw [e] at hl'; simp at hl'; omega
    obtain ⟨i, hL, hg⟩ := loser_gone hr hne
    have h2 : r ≠ "clock" := by rintro rfl; rcases hr with h | h | h | h <;> exact absurd h (by decide)
    have e : stepF r size s p = ((outF s.1 i ++ [(p, markF r)], s.2), false, some (rwA s.1 i).1) := by
      unfold stepF missF; rw [if_neg h, if_neg hl', hL]; simp only [if_neg h2]
    rw [e]
    refine ⟨rfl, i, hg, ?_⟩
    show List.map (fun x : Row => x.1) (outF s.1 i ++ [(p, markF r)]) = _
    rw [List.map_append, out_pages]
    rfl
/-! ### a cache of one page more -/
structure Rel1 (r : Str) (k : Nat) (S B : List Int) : Prop where
  lS : S.length = k
  lB : B.length = k + 1
  sub : ∀ x ∈ S, x ∈ B
  used : r = "used" → ∃ x, B = x :: S
  last : r = "last" → S.getLast? = B.getLast?
def Rel (r : Str) (k : Nat) (S B : List Int) : Prop := (B = S ∧ S.length ≤ k) ∨ Rel1 r k S B
theorem Rel.sub {r : Str} {k : Nat} {S B : List Int} (h : Rel r k S B) : ∀ x ∈ S, x ∈ B := by
  rcases h with ⟨rfl, _⟩ | h
  · exact fun x hx => hx
  · exact h.sub
abbrev Stk (r : Str) : Prop := r = "used" ∨ r = "last" ∨ r = "high"
theorem getLast_nd {l : List Int} {p q : Int} (hn : l.Nodup) (hq : l.getLast? = some q) {i : Nat} (hi : i + 1 = l.length) : l.eraseIdx i = l.erase q ∧ q ∈ l ∧ l[i]? = some q := by
  have e : l[i]? = some q := by
    rw [List.getLast?_eq_getElem?] at hq
    rw [← hq]
    congr 1
    omega
  exact ⟨erase_at hn e, List.mem_of_getElem? e, e⟩
theorem mem_eraseIdx {l : List Int} {x : Int} {i : Nat} (h : x ∈ l.eraseIdx i) : x ∈ l := (List.eraseIdx_sublist l i).subset h
theorem rel_step {r : Str} {k : Nat} {S B S' B' : List Int} {p : Int} {b b' : Bool} (hr : Stk r) (hk : 1 ≤ k) (nS : S.Nodup) (nB : B.Nodup) (R : Rel r k S B) (hS : PStep r (k : Nat) S p S' b) (hB : PStep r ((k + 1 : Nat) : Int) B p B' b') : Rel r k S' B' ∧ (b = true → b' = true) := by
  rcases R with ⟨rfl, hl⟩ | R
  · by_cases hp : p ∈ B
    · obtain ⟨h1, h2⟩ := hS.hit hp
      obtain ⟨h3, h4⟩ := hB.hit hp
      refine ⟨.inl ⟨by rw [h2, h4], ?_⟩, fun _ => h3⟩
      rw [h2]
      split
      · rw [List.length_append, List.length_erase_of_mem hp]
        have := List.length_pos_of_mem hp
        simp
        omega
      · exact hl
    · have hlB : (B.length : Int) < ((k + 1 : Nat) : Int) := by omega
      obtain ⟨h3, h4⟩ := hB.room hp hlB
      by_cases hl2 : (B.length : Int) < (k : Nat)
      · obtain ⟨h1, h2⟩ := hS.room hp hl2
        refine ⟨.inl ⟨by rw [h2, h4], by rw [h2, List.length_append]; simp; omega⟩, fun h => by rw [h1] at h; cases h⟩
      · obtain ⟨h1, i, hg, h2⟩ := hS.full hp hl2
        have hlen : B.length = k := by omega
        refine ⟨.inr ⟨?_, by rw [h4, List.length_append]; simp; omega, ?_, fun hu => ?_, fun _ => by rw [h2, h4]; simp⟩, fun h => by rw [h1] at h; cases h⟩
        · rw [h2, List.length_append, List.length_eraseIdx_of_lt hg.lt]
          simp
          omega
        · intro x hx
          rw [h2] at hx
          rw [h4]
          rcases List.mem_append.mp hx with hx | hx
          · exact List.mem_append_left _ (mem_eraseIdx hx)
          · exact List.mem_append_right _ hx
        · have hi := hg.cu (.inr hu)
          subst hi
          cases B with
          | nil => simp at hlen; omega
          | cons x B => exact ⟨x, by rw [h2, h4]; rfl⟩
  · have nf : ¬ (S.length : Int) < (k : Nat) := by rw [R.lS]; omega
    have nfB : ¬ (B.length : Int) < ((k + 1 : Nat) : Int) := by rw [R.lB]; omega
    by_cases hpS : p ∈ S
    · have hpB := R.sub p hpS
      obtain ⟨h1, h2⟩ := hS.hit hpS
      obtain ⟨h3, h4⟩ := hB.hit hpB
      refine ⟨.inr ?_, fun _ => h3⟩
      by_cases hu : r = "used" ∨ r = "last"
      · rw [if_pos hu] at h2 h4
        refine ⟨?_, ?_, fun x hx => ?_, fun hu => ?_, fun _ => by rw [h2, h4]; simp⟩
        · have := List.length_pos_of_mem hpS
          have := R.lS
          rw [h2, List.length_append, List.length_erase_of_mem hpS]
          simp
          omega
        · have := List.length_pos_of_mem hpB
          have := R.lB
          rw [h4, List.length_append, List.length_erase_of_mem hpB]
          simp
          omega
        · rw [h2] at hx
          rw [h4]
          rcases List.mem_append.mp hx with hx | hx
          · rw [nS.mem_erase_iff] at hx
            exact List.mem_append_left _ ((nB.mem_erase_iff).mpr ⟨hx.1, R.sub x hx.2⟩)
          · exact List.mem_append_right _ hx
        · obtain ⟨x, e⟩ := R.used hu
          refine ⟨x, ?_⟩
          have : x ≠ p := by
            rintro rfl
            rw [e, List.nodup_cons] at nB
            exact nB.1 hpS
          rw [h2, h4, e, List.erase_cons_tail (by simpa using this)]
          rfl
      · rw [if_neg hu] at h2 h4
        rw [h2, h4]
        exact R
    · by_cases hpB : p ∈ B
      · obtain ⟨h1, i, hg, h2⟩ := hS.full hpS nf
        obtain ⟨h3, h4⟩ := hB.hit hpB
        refine ⟨.inr ?_, fun _ => h3⟩
        have hlS : S'.length = k := by
          have := R.lS
          have := hg.lt
          rw [h2, List.length_append, List.length_eraseIdx_of_lt hg.lt]
          simp
          omega
        have hlB : B'.length = k + 1 := by
          have := List.length_pos_of_mem hpB
          have := R.lB
          rw [h4]
          split
          · rw [List.length_append, List.length_erase_of_mem hpB]
            simp
            omega
          · exact R.lB
        refine ⟨hlS, hlB, fun x hx => ?_, fun hu => ?_, fun hu => ?_⟩
        · rw [h2] at hx
          have hxB : x ∈ B := by
            rcases List.mem_append.mp hx with hx | hx
            · exact R.sub x (mem_eraseIdx hx)
            · have : x = p := by simpa using hx
              rw [this]; exact hpB
          rw [h4]
          split
          · by_cases e : x = p
            · exact List.mem_append_right _ (by simp [e])
            · exact List.mem_append_left _ ((nB.mem_erase_iff).mpr ⟨e, hxB⟩)
          · exact hxB
        · obtain ⟨x, e⟩ := R.used hu
          have hxp : x = p := by
            rw [e] at hpB
            rcases List.mem_cons.mp hpB with h | h
            · exact h.symm
            · exact absurd h hpS
          have hi := hg.cu (.inr hu)
          subst hi
          rw [if_pos (.inl hu)] at h4
          cases S with
          | nil => have := R.lS; simp at this; omega
          | cons y S =>
            refine ⟨y, ?_⟩
            rw [h2, h4, e, hxp]
            simp
        · rw [if_pos (.inr hu)] at h4
          rw [h2, h4]
          simp
      · obtain ⟨h1, i, hg, h2⟩ := hS.full hpS nf
        obtain ⟨h3, j, hgB, h4⟩ := hB.full hpB nfB
        refine ⟨.inr ?_, fun h => by rw [h1] at h; cases h⟩
        refine ⟨?_, ?_, fun x hx => ?_, fun hu => ?_, fun _ => by rw [h2, h4]; simp⟩
        · have := R.lS
          have := hg.lt
          rw [h2, List.length_append, List.length_eraseIdx_of_lt hg.lt]
          simp
          omega
        · have := R.lB
          have := hgB.lt
          rw [h4, List.length_append, List.length_eraseIdx_of_lt hgB.lt]
          simp
          omega
        · rw [h2] at hx
          rw [h4]
          rcases List.mem_append.mp hx with hx | hx
          · refine List.mem_append_left _ ?_
            have hxB := R.sub x (mem_eraseIdx hx)
            have egS := erase_at nS (List.getElem?_eq_getElem hg.lt)
            have egB := erase_at nB (List.getElem?_eq_getElem hgB.lt)
            rw [egS, nS.mem_erase_iff] at hx
            rw [egB, nB.mem_erase_iff]
            refine ⟨fun e => ?_, hxB⟩
            rcases hr with hu | hu | hu
            · obtain ⟨y, eB⟩ := R.used hu
              have hj := hgB.cu (.inr hu)
              subst hj
              subst eB
              rw [List.nodup_cons] at nB
              exact nB.1 (by rw [e] at hx; exact hx.2)
            · have hi := hg.last hu
              have hj := hgB.last hu
              have hq := R.last hu
              have e1 : S.getLast? = some S[i] := by
                rw [List.getLast?_eq_getElem?, ← List.getElem?_eq_getElem hg.lt]
                congr 1
                omega
              have e2 : B.getLast? = some B[j] := by
                rw [List.getLast?_eq_getElem?, ← List.getElem?_eq_getElem hgB.lt]
                congr 1
                omega
              rw [e1, e2] at hq
              exact hx.1 (e.trans (Option.some.inj hq).symm)
            · have h5 := hg.high hu _ (List.getElem?_eq_getElem hg.lt) x hx.2
              have h6 := hgB.high hu _ (List.getElem?_eq_getElem hgB.lt) _ (R.sub _ (List.getElem_mem hg.lt))
              exact hx.1 (by omega)
          · exact List.mem_append_right _ hx
        · obtain ⟨x, e⟩ := R.used hu
          have hi := hg.cu (.inr hu)
          have hj := hgB.cu (.inr hu)
          subst hi
          subst hj
          cases S with
          | nil => have := R.lS; simp at this; omega
          | cons y S =>
            refine ⟨y, ?_⟩
            rw [h2, h4, e]
            rfl
theorem stk_ix {r : Str} (h : Stk r) : r ∈ ruleIx ∧ NoClock r := by
  rcases h with rfl | rfl | rfl
  · exact ⟨by decide, .inr (.inl rfl)⟩
  · exact ⟨by decide, .inr (.inr (.inl rfl))⟩
  · exact ⟨by decide, .inr (.inr (.inr rfl))⟩
theorem missesL_cons (q : Ans) (rows : List Ans) : missesL (q :: rows) = (if q.1 = true then 0 else 1) + missesL rows := by
  unfold missesL
  rw [List.filter_cons]
  cases q with
  | mk b o => cases b <;> simp <;> omega
theorem rel_run {r : Str} {k : Nat} (hr : Stk r) (hk : 1 ≤ k) (h6 : k + 1 ≤ 6) : ∀ (ps : List Int) {s t : Sta}, SOk r (k : Nat) s → SOk r ((k + 1 : Nat) : Int) t → Rel r k (pagesS s) (pagesS t) →
    Rel r k (pagesS (runG r (k : Nat) s ps).2) (pagesS (runG r ((k + 1 : Nat) : Int) t ps).2) ∧ missesL (runG r ((k + 1 : Nat) : Int) t ps).1 ≤ missesL (runG r (k : Nat) s ps).1
  | [], s, t, _, _, R => ⟨R, Nat.le_refl _⟩
  | p :: ps, s, t, ws, wt, R => by
    have hix := stk_ix hr
    have s1 := step_ok (p := p) hix.1 (size := (k : Nat)) (by omega) ws
    have t1 := step_ok (p := p) hix.1 (size := ((k + 1 : Nat) : Int)) (by omega) wt
    have s2 := pg_step (p := p) hix.2 (size := (k : Nat)) (by omega) ws
    have t2 := pg_step (p := p) hix.2 (size := ((k + 1 : Nat) : Int)) (by omega) wt
    obtain ⟨R', hb⟩ := rel_step hr hk ws.nd wt.nd R s2 t2
    obtain ⟨R2, hm⟩ := rel_run hr hk h6 ps s1.ok t1.ok R'
    refine ⟨R2, ?_⟩
    unfold runG
    rw [missesL_cons, missesL_cons]
    by_cases h : (stepF r (k : Nat) s p).2.1 = true
    · rw [if_pos h, if_pos (hb h)]
      omega
    · rw [if_neg h]
      split <;> omega
/-- what is held is held by one page more -/
theorem stack_sub {r : Str} {k : Nat} (hr : Stk r) (hk : 1 ≤ k) (h6 : k + 1 ≤ 6) (ps : List Int) : (∀ x ∈ pagesS (runG r (k : Nat) sta0 ps).2, x ∈ pagesS (runG r ((k + 1 : Nat) : Int) sta0 ps).2) ∧ missN r ((k + 1 : Nat) : Int) ps ≤ missN r (k : Nat) ps := by
  obtain ⟨h1, h2⟩ := rel_run hr hk h6 ps (s := sta0) (t := sta0) (sok0 (by omega)) (sok0 (by omega)) (.inl ⟨rfl, by simp [pagesS, sta0]⟩)
  exact ⟨h1.sub, h2⟩
end Cb

set_option Elab.async false
set_option linter.all false
set_option maxRecDepth 100000
set_option maxHeartbeats 4000000
/-! Rules against the best: phases. -/
namespace Cb
open PySem PySem.Spec PyProof.Rows L2 Dl
/-- phases of k pages: how many ended, what was asked in this one -/
abbrev Pha := Nat × List Int
def phS (k : Nat) (a : Pha) (p : Int) : Pha := if p ∈ a.2 then a else if a.2.length < k then (a.1, p :: a.2) else (a.1 + 1, [p])
structure PhOk (k : Nat) (a : Pha) : Prop where
  nd : a.2.Nodup
  len : a.2.length ≤ k
theorem phS_ok {k : Nat} {a : Pha} {p : Int} (hk : 1 ≤ k) (h : PhOk k a) : PhOk k (phS k a p) ∧ p ∈ (phS k a p).2 := by
  unfold phS
  by_cases hp : p ∈ a.2
  · rw [if_pos hp]; exact ⟨h, hp⟩
  · rw [if_neg hp]
    by_cases hl : a.2.length < k
    · rw [if_pos hl]; exact ⟨⟨List.nodup_cons.mpr ⟨hp, h.nd⟩, by simp; omega⟩, by simp⟩
    · rw [if_neg hl]; exact ⟨⟨by simp, by simp; omega⟩, by simp⟩
/-- the two ways on -/
theorem phS_cases {k : Nat} {a : Pha} {p : Int} (h : PhOk k a) : ((phS k a p).1 = a.1 ∧ (∀ x ∈ a.2, x ∈ (phS k a p).2)) ∨ ((phS k a p).1 = a.1 + 1 ∧ (phS k a p).2 = [p] ∧ a.2.length = k ∧ p ∉ a.2) := by
  unfold phS
  by_cases hp : p ∈ a.2
  · rw [if_pos hp]; exact .inl ⟨rfl, fun x hx => hx⟩
  · rw [if_neg hp]
    by_cases hl : a.2.length < k
    · rw [if_pos hl]; exact .inl ⟨rfl, fun x hx => List.mem_cons_of_mem _ hx⟩
    · rw [if_neg hl]; exact .inr ⟨rfl, rfl, by have := h.len; omega, hp⟩
theorem sub_len {l m : List Int} (h : l.Nodup) (s : ∀ x ∈ l, x ∈ m) : l.length ≤ m.length := List.Nodup.length_le_of_subset h fun x hx => s x hx
/-! ### came, used -/
structure CU (k : Nat) (a : Pha) (m : Nat) (l : List Int) : Prop where
  ex : ∃ X M, l = X ++ M ∧ (∀ x ∈ M, x ∈ a.2) ∧ m ≤ k * a.1 + M.length
theorem CU.step {r : Str} {k : Nat} {a : Pha} {m : Nat} {l l' : List Int} {p : Int} {b : Bool} (hr : r = "came" ∨ r = "used") (hk : 1 ≤ k) (pa : PhOk k a) (nd : l.Nodup) (hlk : l.length ≤ k) (h : CU k a m l) (hs : PStep r (k : Nat) l p l' b) :
    CU k (phS k a p) (m + if b = true then 0 else 1) l' := by
  obtain ⟨X, M, rfl, hM, hm⟩ := h.ex
  obtain ⟨pk, pin⟩ := phS_ok (p := p) hk pa
  have hnM : M.Nodup := (List.nodup_append.mp nd).2.1
  have hMk : M.length ≤ k := by have := sub_len hnM hM; have := pa.len; omega
  have hc := phS_cases (p := p) pa
  -- what was missed so far, seen from behind the ask
  have base : ∀ N : List Int, (∀ x ∈ N, x = p ∨ x ∈ M) → True := fun _ _ => trivial
  by_cases hp : p ∈ X ++ M
  · obtain ⟨h1, h2⟩ := hs.hit hp
    rw [h1, if_pos rfl, Nat.add_zero]
    rcases hr with rfl | rfl
    · rw [if_neg (by decide)] at h2
      subst h2
      rcases hc with ⟨e1, e2⟩ | ⟨e1, e2, e3, e4⟩
      · exact ⟨X, M, rfl, fun x hx => e2 x (hM x hx), by rw [e1]; exact hm⟩
      · refine ⟨X ++ M, [], by simp, by simp, ?_⟩
        rw [e1, Nat.mul_add]
        simp
        omega
    · rw [if_pos (.inl rfl)] at h2
      rcases hc with ⟨e1, e2⟩ | ⟨e1, e2, e3, e4⟩
      · by_cases hpM : p ∈ M
        · have hpX : p ∉ X := fun h => (List.nodup_append.mp nd).2.2 p h p hpM rfl
          refine ⟨X, M.erase p ++ [p], ?_, fun x hx => ?_, ?_⟩
          · rw [h2, List.erase_append_right _ hpX, List.append_assoc]
          · rcases List.mem_append.mp hx with hx | hx
            · exact e2 x (hM x (List.mem_of_mem_erase hx))
            · have : x = p := by simpa using hx
              rw [this]; exact pin
          · rw [e1, List.length_append, List.length_erase_of_mem hpM]
            have := List.length_pos_of_mem hpM
            simp
            omega
        · have hpX : p ∈ X := (List.mem_append.mp hp).resolve_right hpM
          refine ⟨X.erase p, M ++ [p], ?_, fun x hx => ?_, ?_⟩
          · rw [h2, List.erase_append_left _ hpX, List.append_assoc]
          · rcases List.mem_append.mp hx with hx | hx
            · exact e2 x (hM x hx)
            · have : x = p := by simpa using hx
              rw [this]; exact pin
          · rw [e1, List.length_append]
            simp
            omega
      · refine ⟨(X ++ M).erase p, [p], h2, by rw [e2]; simp, ?_⟩
        rw [e1, Nat.mul_add]
        simp
        omega
  · have hpM : p ∉ M := fun h => hp (List.mem_append_right _ h)
    have hb : b = false := by
      by_cases hl : ((X ++ M).length : Int) < (k : Nat)
      · exact (hs.room hp hl).1
      · exact (hs.full hp hl).1
    rw [hb, if_neg (by decide)]
    -- a suffix of what was missed in this phase stays, the page behind it
    have key : (∃ Y, l' = Y ++ [p]) ∧ (M.length < k → ∃ Y, l' = Y ++ (M ++ [p])) := by
      by_cases hl : ((X ++ M).length : Int) < (k : Nat)
      · have e := (hs.room hp hl).2
        exact ⟨⟨_, e⟩, fun _ => ⟨X, by rw [e]; simp⟩⟩
      · obtain ⟨i, hg, e⟩ := (hs.full hp hl).2
        have hi := hg.cu hr
        subst hi
        refine ⟨⟨_, e⟩, fun hMl => ?_⟩
        cases X with
        | nil => simp at hl; omega
        | cons x X => exact ⟨X, by rw [e]; simp⟩
    rcases hc with ⟨e1, e2⟩ | ⟨e1, e2, e3, e4⟩
    · have hlt : M.length < k := by
        have hn : (p :: M).Nodup := List.nodup_cons.mpr ⟨hpM, hnM⟩
        have := sub_len hn (m := (phS k a p).2) fun x hx => by
          rcases List.mem_cons.mp hx with rfl | hx
          · exact pin
          · exact e2 x (hM x hx)
        have := pk.len
        simp at *
        omega
      obtain ⟨Y, e⟩ := key.2 hlt
      refine ⟨Y, M ++ [p], e, fun x hx => ?_, ?_⟩
      · rcases List.mem_append.mp hx with hx | hx
        · exact e2 x (hM x hx)
        · have : x = p := by simpa using hx
          rw [this]; exact pin
      · rw [e1, List.length_append]
        simp
        omega
    · obtain ⟨Y, e⟩ := key.1
      refine ⟨Y, [p], e, by rw [e2]; simp, ?_⟩
      rw [e1, Nat.mul_add]
      simp
      omega
def phases (k : Nat) : Pha → List Int → Pha := fun a ps => ps.foldl (phS k) a
theorem CU.run {r : Str} {k : Nat} (hr : r = "came" ∨ r = "used") (hk : 1 ≤ k) (h6 : k ≤ 6) : ∀ (ps : List Int) {s : Sta} {a : Pha} {m : Nat}, SOk r (k : Nat) s → PhOk k a → CU k a m (pagesS s) →
    m + missesL (runG r (k : Nat) s ps).1 ≤ k * (phases k a ps).1 + (phases k a ps).2.length
  | [], s, a, m, w, pa, h => by
    obtain ⟨X, M, e, hM, hm⟩ := h.ex
    have hn : M.Nodup := by have := w.nd; rw [e] at this; exact (List.nodup_append.mp this).2.1
    have := sub_len hn hM
    show m + 0 ≤ k * a.1 + a.2.length
    omega
  | p :: ps, s, a, m, w, pa, h => by
    have hix : r ∈ ruleIx ∧ NoClock r := by
      rcases hr with rfl | rfl
      · exact ⟨by decide, .inl rfl⟩
      · exact ⟨by decide, .inr (.inl rfl)⟩
    have s1 := step_ok (p := p) hix.1 (size := (k : Nat)) (by omega) w
    have s2 := pg_step (p := p) hix.2 (size := (k : Nat)) (by omega) w
    have hl : (pagesS s).length ≤ k := by have := w.len; simp [pagesS]; omega
    have := CU.run hr hk h6 ps s1.ok (phS_ok (p := p) hk pa).1 (h.step hr hk pa w.nd hl s2)
    unfold runG
    rw [missesL_cons]
    show _ ≤ k * (phases k (phS k a p) ps).1 + (phases k (phS k a p) ps).2.length
    omega
theorem cu_bound {r : Str} {k : Nat} (hr : r = "came" ∨ r = "used") (hk : 1 ≤ k) (h6 : k ≤ 6) (ps : List Int) : missN r (k : Nat) ps ≤ k * (phases k (0, []) ps).1 + (phases k (0, []) ps).2.length := by
  have := CU.run hr hk h6 ps (s := sta0) (a := (0, [])) (m := 0) (sok0 (by omega)) ⟨by simp, by simp⟩ ⟨[], [], rfl, by simp, by simp⟩
  unfold missN
  omega
/-! ### the best -/
/-- of A without S -/
def outN (A S : List Int) : Nat := (A.filter fun x => decide (x ∉ S)).length
theorem outN_cons (x : Int) (A S : List Int) : outN (x :: A) S = outN A S + if x ∈ S then 0 else 1 := by
  unfold outN
  rw [List.filter_cons]
  by_cases h : x ∈ S <;> simp [h]
theorem filt_two (A S : List Int) : A.length = (A.filter fun x => decide (x ∈ S)).length + (A.filter fun x => decide (x ∉ S)).length := by
  induction A with
  | nil => rfl
  | cons x A ih =>
    rw [List.filter_cons, List.filter_cons]
    by_cases h : x ∈ S <;> simp [h] <;> simp at ih <;> omega
theorem outN_ge {A S : List Int} (hA : A.Nodup) (z : Nat) (T : List Int) (hT : T.length ≤ z) (h : ∀ x ∈ A, x ∈ S → x ∈ T) : A.length ≤ outN A S + z := by
  have e := filt_two A S
  have h1 : (A.filter fun x => decide (x ∈ S)).length ≤ T.length := sub_len (hA.filter _) fun x hx => by
    obtain ⟨h1, h2⟩ := List.mem_filter.mp hx
    exact h x h1 (by simpa using h2)
  unfold outN
  omega
/-- what a way of the best has spent -/
def Paid (h over : Nat) (a : Pha) (q : List Int × Int) : Prop := ∃ S : List Int, S.Nodup ∧ S.length ≤ h ∧ (∀ x ∈ q.1, x ∈ S ∨ x ∈ a.2) ∧ 1 + (over : Int) * a.1 + (outN a.2 S : Int) ≤ q.2
theorem moves_in {size : Int} {held : List Int} {page x : Int} {l : List Int} (hl : l ∈ movesF size held page) (hx : x ∈ l) : x = page ∨ x ∈ held := by
  unfold movesF at hl
  split at hl
  · have e : l = sortI (held ++ [page]) := by simpa using hl
    rw [e] at hx
    rcases List.mem_append.mp ((sortI_perm _).mem_iff.mp hx) with h | h
    · exact .inr h
    · exact .inl (by simpa using h)
  · obtain ⟨g, _, rfl⟩ := List.mem_map.mp hl
    rcases List.mem_append.mp ((sortI_perm _).mem_iff.mp hx) with h | h
    · exact .inr (List.mem_filter.mp h).1
    · exact .inl (by simpa using h)
theorem Paid.step {h k over : Nat} {a : Pha} {p : Int} {q q' : List Int × Int} (hk : 1 ≤ k) (hkh : h ≤ k) (ho : over = k - h + 1) (pa : PhOk k a) (ok' : HOk9 (h : Nat) q'.1) (hP : Paid h over a q) (l : Leads (h : Nat) p 1 q q') : Paid h over (phS k a p) q' := by
  obtain ⟨S, nS, lS, sub, hc⟩ := hP
  obtain ⟨pk, pin⟩ := phS_ok (p := p) hk pa
  have hin : ∀ x ∈ q'.1, x = p ∨ x ∈ q.1 := by
    rcases l with ⟨h1, h2⟩ | ⟨h1, h2, _⟩
    · rw [h2]; exact fun x hx => .inr hx
    · exact fun x hx => moves_in h2 hx
  have hcost : q'.2 = q.2 + if p ∈ q.1 then 0 else 1 := by
    rcases l with ⟨h1, h2⟩ | ⟨h1, _, h3⟩
    · rw [h2, if_pos h1]; omega
    · rw [h3, if_neg h1]
  unfold phS
  by_cases hp : p ∈ a.2
  · rw [if_pos hp]
    refine ⟨S, nS, lS, fun x hx => ?_, ?_⟩
    · rcases hin x hx with rfl | hx
      · exact .inr hp
      · exact sub x hx
    · rw [hcost]
      split <;> omega
  · rw [if_neg hp]
    by_cases hl : a.2.length < k
    · rw [if_pos hl]
      refine ⟨S, nS, lS, fun x hx => ?_, ?_⟩
      · rcases hin x hx with rfl | hx
        · exact .inr List.mem_cons_self
        · rcases sub x hx with h | h
          · exact .inl h
          · exact .inr (List.mem_cons_of_mem _ h)
      · rw [outN_cons, hcost]
        by_cases hq : p ∈ q.1
        · have hS : p ∈ S := (sub p hq).resolve_right hp
          rw [if_pos hq, if_pos hS]
          simp only
          omega
        · rw [if_neg hq]
          simp only
          split <;> omega
    · rw [if_neg hl]
      have hlk : a.2.length = k := by have := pa.len; omega
      refine ⟨q'.1, ok'.rise.nodup, by have := ok'.len; omega, fun x hx => .inl hx, ?_⟩
      have hp' : p ∈ q'.1 := by
        rcases l with ⟨h1, h2⟩ | ⟨h1, h2, _⟩
        · rw [h2]; exact h1
        · unfold movesF at h2
          split at h2
          · have e : q'.1 = sortI (q.1 ++ [p]) := by simpa using h2
            rw [e]
            exact (sortI_perm _).mem_iff.mpr (by simp)
          · obtain ⟨g, _, e⟩ := List.mem_map.mp h2
            rw [← e]
            exact (sortI_perm _).mem_iff.mpr (by simp)
      have e0 : outN [p] q'.1 = 0 := by
        rw [outN_cons, if_pos hp']
        rfl
      have hgoal : (over : Int) + (outN a.2 S : Int) * 0 ≤ (outN a.2 S : Int) + if p ∈ q.1 then 0 else 1 := by
        by_cases hq : p ∈ q.1
        · have hS : p ∈ S := (sub p hq).resolve_right hp
          have := outN_ge pa.nd (h - 1) (S.erase p) (by rw [List.length_erase_of_mem hS]; omega) fun x hx hxS => (nS.mem_erase_iff).mpr ⟨by rintro rfl; exact hp hx, hxS⟩
          have hpos := List.length_pos_of_mem hS
          rw [if_pos hq]
          omega
        · have := outN_ge pa.nd h S lS fun x _ hxS => hxS
          rw [if_neg hq]
          omega
      have e1 : (over : Int) * ((a.1 + 1 : Nat) : Int) = over * a.1 + over := by
        rw [Int.natCast_add, Int.mul_add]
        simp
      simp only
      rw [e0, e1, hcost]
      omega
theorem Paid.run {h k over : Nat} (hh : 1 ≤ h) (hk : 1 ≤ k) (hkh : h ≤ k) (ho : over = k - h + 1) : ∀ (ps : List Int) {a : Pha} {w : Wk}, PhOk k a → WkOk (h : Nat) w → (∀ p ∈ ps, 0 ≤ p ∧ p ≤ 9) → (∀ q ∈ w, Paid h over a q) →
    ∀ q ∈ ps.foldl (fun w p => behindF (h : Nat) w p (costF none p)) w, Paid h over (phases k a ps) q
  | [], a, w, _, _, _, H => H
  | p :: ps, a, w, pa, wk, h9, H => by
    have wk' := behind_ok (cost := costF none p) (size := (h : Nat)) (by omega) (h9 p (by simp)) wk
    refine Paid.run hh hk hkh ho ps (phS_ok (p := p) hk pa).1 wk' (fun x hx => h9 x (List.mem_cons_of_mem _ hx)) fun q hq => ?_
    obtain ⟨r, hr, hl⟩ := least_behind.from_ q hq
    exact (H r hr).step hk hkh ho pa (wk'.ok q hq) hl
theorem works_cons (size : Int) (cs : Costs) (p : Int) (ps : List Int) : worksF size cs (p :: ps) = ps.foldl (fun w p => behindF size w p (costF cs p)) (behindF size [([], 0)] p (costF cs p)) := rfl
/-- the best spends so much -/
theorem best_bound {h k over : Nat} (hh : 1 ≤ h) (hk : 1 ≤ k) (hkh : h ≤ k) (ho : over = k - h + 1) {ps : List Int} (h9 : ∀ p ∈ ps, 0 ≤ p ∧ p ≤ 9) (hne : ps ≠ []) : ∀ q ∈ worksF (h : Nat) none ps, Paid h over (phases k (0, []) ps) q := by
  cases ps with
  | nil => exact absurd rfl hne
  | cons p ps =>
    have w0 : WkOk (h : Nat) (worksF (h : Nat) none []) := works_ok (by omega) (by simp)
    have w1 := behind_ok (cost := costF none p) (size := (h : Nat)) (by omega) (h9 p (by simp)) w0
    have e : phases k (0, []) (p :: ps) = phases k (0, [p]) ps := by
      show phases k (phS k (0, []) p) ps = _
      have : phS k (0, []) p = (0, [p]) := by
        unfold phS
        rw [if_neg (by simp), if_pos (by simp; omega)]
      rw [this]
    rw [works_cons, e]
    refine Paid.run hh hk hkh ho ps ⟨by simp, by simp; omega⟩ w1 (fun x hx => h9 x (List.mem_cons_of_mem _ hx)) fun q hq => ?_
    obtain ⟨r, hr, hl⟩ := least_behind.from_ q hq
    have hr : r = ([], 0) := by simpa [worksF] using hr
    subst hr
    rcases hl with ⟨h1, _⟩ | ⟨_, h2, h3⟩
    · simp at h1
    · have hx : ∀ x ∈ q.1, x = p := fun x hx => (moves_in h2 hx).resolve_right (by simp)
      refine ⟨[p], by simp, by simp; omega, fun x hx' => .inl (by rw [hx x hx']; simp), ?_⟩
      rw [outN_cons, if_pos (by simp), h3]
      show 1 + (over : Int) * ((0 : Nat) : Int) + ((outN [] [p] + 0 : Nat) : Int) ≤ 0 + 1
      simp [outN]
/-- a rule that misses so often is no worse than so many times the best -/
theorem ratio_bound {h k over m : Nat} {best : Int} (hh : 1 ≤ h) (hk : 1 ≤ k) (hkh : h ≤ k) (ho : over = k - h + 1) {ps : List Int} (h9 : ∀ p ∈ ps, 0 ≤ p ∧ p ≤ 9) {q : List Int × Int} (hq : q ∈ worksF (h : Nat) none ps) (hb : best = q.2)
    (hm : m ≤ k * (phases k (0, []) ps).1 + (phases k (0, []) ps).2.length) : (m : Int) * over ≤ k * best + h * over := by
  subst hb
  have pk : ∀ (ps : List Int) (a : Pha), PhOk k a → PhOk k (phases k a ps) := fun ps => by
    induction ps with
    | nil => exact fun a h => h
    | cons p ps ih => exact fun a h => ih _ (phS_ok hk h).1
  have pa := pk ps (0, []) ⟨by simp, by simp⟩
  by_cases hne : ps = []
  · subst hne
    have hq : q = ([], 0) := by simpa [worksF] using hq
    subst hq
    have : m = 0 := by simpa [phases] using hm
    subst this
    have : (0 : Int) ≤ (h : Int) * over := Int.mul_nonneg (by omega) (by omega)
    simpa using this
  · obtain ⟨S, nS, lS, _, hc⟩ := best_bound hh hk hkh ho h9 hne q hq
    have hA := outN_ge pa.nd h S lS fun x _ hx => hx
    have hAk := pa.len
    generalize (phases k (0, []) ps) = a at *
    generalize hL : a.2.length = L at *
    generalize hO : outN a.2 S = O at *
    have h1 : (m : Int) * over ≤ ((k * a.1 + L : Nat) : Int) * over := Int.mul_le_mul_of_nonneg_right (by omega) (by omega)
    have h2 : (k : Int) * (1 + (over : Int) * a.1 + (O : Int)) ≤ k * q.2 := Int.mul_le_mul_of_nonneg_left hc (by omega)
    have e1 : ((k * a.1 + L : Nat) : Int) * over = k * (over * a.1) + L * over := by
      rw [Int.natCast_add, Int.natCast_mul, Int.add_mul, Int.mul_assoc, Int.mul_comm (a.1 : Int) over]
    have e2 : (k : Int) * (1 + (over : Int) * a.1 + (O : Int)) = k + k * (over * a.1) + k * O := by
      rw [Int.mul_add, Int.mul_add, Int.mul_one]
    have h3 : (L : Int) * over ≤ k * O + h * over := by
      have h4 : (L : Int) * over ≤ ((O + h : Nat) : Int) * over := Int.mul_le_mul_of_nonneg_right (by omega) (by omega)
      have h5 : (over : Int) * O ≤ k * O := Int.mul_le_mul_of_nonneg_right (by omega) (by omega)
      rw [Int.natCast_add, Int.add_mul, Int.mul_comm (O : Int) over] at h4
      omega
    rw [e1] at h1
    rw [e2] at h2
    omega
end Cb

set_option Elab.async false
set_option linter.all false
set_option maxRecDepth 100000
set_option maxHeartbeats 4000000
/-! Clock against the best. -/
namespace Cb
open PySem PySem.Spec PyProof.Rows L2 Dl
/-- the rows from the hand on -/
def rot (s : Sta) : List Row := s.1.drop s.2 ++ s.1.take s.2
theorem rot_cons {rows : List Row} {h : Nat} {x : Row} (e : rows[h]? = some x) : rot (rows, h) = x :: (rows.drop (h + 1) ++ rows.take h) := by
  obtain ⟨hl, e⟩ := List.getElem?_eq_some_iff.mp e
  unfold rot
  rw [List.drop_eq_getElem_cons hl, e]
  rfl
theorem rot_set {rows : List Row} {h : Nat} (hl : h < rows.length) (v : Row) : rot (rows.set h v, (h + 1) % rows.length) = rows.drop (h + 1) ++ rows.take h ++ [v] := by
  have et : (rows.set h v).take (h + 1) = rows.take h ++ [v] := by
    rw [List.take_succ, List.take_set_of_le (Nat.le_refl h), List.getElem?_set_self hl]
    rfl
  unfold rot
  by_cases hc : h + 1 < rows.length
  · rw [Nat.mod_eq_of_lt hc]
    simp only
    rw [et, List.drop_set_of_lt (by omega), List.append_assoc]
  · have e : h + 1 = rows.length := by omega
    rw [← e, Nat.mod_self]
    simp only
    have e1 : (rows.set h v).drop 0 = rows.take h ++ [v] := by
      rw [List.drop_zero, ← et, List.take_of_length_le (by rw [List.length_set]; omega)]
    rw [e1, List.take_zero, List.append_nil, List.drop_of_length_le (by omega), List.nil_append]
theorem rot_mem {s : Sta} {x : Row} : x ∈ rot s ↔ x ∈ s.1 := by
  unfold rot
  rw [List.mem_append, Or.comm, ← List.mem_append, List.take_append_drop]
theorem clock_pres (Φ : List Row → Prop) (hΦ : ∀ y R, Φ ((y, 1) :: R) → Φ (R ++ [(y, 0)])) : ∀ n rows h, h < rows.length → Φ (rot (rows, h)) → Φ (rot (clockRun [] n rows h))
  | 0, rows, h, _, H => H
  | n + 1, rows, h, hl, H => by
    unfold clockRun
    split
    · exact H
    · rename_i a b e
      split
      · rename_i hb
        have hb : b = 1 := by simpa using hb
        subst hb
        rw [if_neg (by simp)]
        have hm : (h + 1) % rows.length < rows.length := Nat.mod_lt _ (by omega)
        refine clock_pres Φ hΦ n _ _ (by rw [List.length_set]; exact hm) ?_
        rw [rot_set hl]
        rw [rot_cons e] at H
        exact hΦ _ _ H
      · exact H
theorem clock_end : ∀ n rows h, h < rows.length → rows.countP (fun x => decide (x.2 = 1)) ≤ n → (rwA (clockRun [] n rows h).1 (clockRun [] n rows h).2).2 ≠ 1
  | 0, rows, h, hl, H => by
    intro e
    have h0 : rows.countP (fun x => decide (x.2 = 1)) = 0 := by omega
    rw [List.countP_eq_zero] at h0
    have := h0 _ (List.mem_of_getElem? (rw_at hl))
    have e : (rwA rows h).2 = 1 := e
    exact this (by simpa using e)
  | n + 1, rows, h, hl, H => by
    unfold clockRun
    split
    · rename_i e
      rw [rw_at hl] at e
      cases e
    · rename_i a b e
      split
      · rename_i hb
        have hb : b = 1 := by simpa using hb
        subst hb
        rw [if_neg (by simp)]
        have hm : (h + 1) % rows.length < rows.length := Nat.mod_lt _ (by omega)
        refine clock_end n _ _ (by rw [List.length_set]; exact hm) ?_
        have eg := (List.getElem?_eq_some_iff.mp e).2
        rw [List.countP_set hl, eg]
        simp
        have : 0 < rows.countP (fun x => decide (x.2 = 1)) := List.countP_pos_iff.mpr ⟨_, List.mem_of_getElem? e, by simp⟩
        omega
      · rename_i hb
        have e2 := rw_at hl
        rw [e] at e2
        have e2 := Option.some.inj e2
        rw [← e2]
        simp at hb
        exact hb
/-- one that was missed in this phase stands right -/
def Fine (A : List Int) (R : List Row) (x : Int) : Prop := ∃ L T b, R = L ++ (x, b) :: T ∧ ((b = 1 ∧ ∀ y ∈ T, y.2 = 1 → y.1 ∈ A) ∨ ((∀ y ∈ R, y.2 = 1 → y.1 ∈ A) ∧ ∀ y ∈ T, y.1 ∈ A))
theorem fine_rot {A : List Int} {x y : Int} {R : List Row} (h : Fine A ((y, 1) :: R) x) : Fine A (R ++ [(y, 0)]) x := by
  obtain ⟨L, T, b, e, h⟩ := h
  cases L with
  | nil =>
    injection e with e1 e2
    injection e1 with e1 e3
    subst e1 e2 e3
    refine ⟨R, [], 0, rfl, .inr ⟨fun z hz hm => ?_, by simp⟩⟩
    rcases List.mem_append.mp hz with hz | hz
    · rcases h with ⟨_, h⟩ | ⟨h, _⟩
      · exact h z hz hm
      · exact h z (List.mem_cons_of_mem _ hz) hm
    · have : z = (y, 0) := by simpa using hz
      rw [this] at hm
      simp at hm
  | cons w L =>
    injection e with e1 e2
    subst e1 e2
    refine ⟨L, T ++ [(y, 0)], b, by simp, ?_⟩
    rcases h with ⟨hb, h⟩ | ⟨h1, h2⟩
    · refine .inl ⟨hb, fun z hz hm => ?_⟩
      rcases List.mem_append.mp hz with hz | hz
      · exact h z hz hm
      · have : z = (y, 0) := by simpa using hz
        rw [this] at hm
        simp at hm
    · refine .inr ⟨fun z hz hm => ?_, fun z hz => ?_⟩
      · rcases List.mem_append.mp hz with hz | hz
        · exact h1 z (List.mem_cons_of_mem _ hz) hm
        · have : z = (y, 0) := by simpa using hz
          rw [this] at hm
          simp at hm
      · rcases List.mem_append.mp hz with hz | hz
        · exact h2 z hz
        · have : z = (y, 0) := by simpa using hz
          rw [this]
          exact h1 (y, 1) List.mem_cons_self rfl
theorem fine_out {A A' : List Int} {x p : Int} {y : Row} {R : List Row} (hA : ∀ z ∈ A, z ∈ A') (hp : p ∈ A') (hx : x ∈ A) (hy : y.2 ≠ 1) (hn : ((y :: R).map (·.1)).Nodup) (hpR : p ∉ (y :: R).map (·.1)) (hl : A'.length ≤ (y :: R).length) (h : Fine A (y :: R) x) : Fine A' (R ++ [(p, 1)]) x := by
  obtain ⟨L, T, b, e, h⟩ := h
  cases L with
  | nil =>
    injection e with e1 e2
    subst e1 e2
    rcases h with ⟨hb, _⟩ | ⟨_, h⟩
    · exact absurd hb hy
    · exfalso
      have hn2 : (p :: ((x, b) :: R).map (·.1)).Nodup := List.nodup_cons.mpr ⟨hpR, hn⟩
      have := sub_len hn2 (m := A') fun z hz => by
        rcases List.mem_cons.mp hz with rfl | hz
        · exact hp
        · obtain ⟨w, hw, rfl⟩ := List.mem_map.mp hz
          rcases List.mem_cons.mp hw with rfl | hw
          · exact hA _ hx
          · exact hA _ (h w hw)
      simp at this hl
      omega
  | cons w L =>
    injection e with e1 e2
    subst e1 e2
    refine ⟨L, T ++ [(p, 1)], b, by simp, ?_⟩
    rcases h with ⟨hb, h⟩ | ⟨h1, h2⟩
    · refine .inl ⟨hb, fun z hz hm => ?_⟩
      rcases List.mem_append.mp hz with hz | hz
      · exact hA _ (h z hz hm)
      · have : z = (p, 1) := by simpa using hz
        rw [this]; exact hp
    · refine .inr ⟨fun z hz hm => ?_, fun z hz => ?_⟩
      · rcases List.mem_append.mp hz with hz | hz
        · exact hA _ (h1 z (List.mem_cons_of_mem _ hz) hm)
        · have : z = (p, 1) := by simpa using hz
          rw [this]; exact hp
      · rcases List.mem_append.mp hz with hz | hz
        · exact hA _ (h2 z hz)
        · have : z = (p, 1) := by simpa using hz
          rw [this]; exact hp
theorem fine_room {A A' : List Int} {x p : Int} {R : List Row} (hA : ∀ z ∈ A, z ∈ A') (hp : p ∈ A') (h : Fine A R x) : Fine A' (R ++ [(p, 1)]) x := by
  obtain ⟨L, T, b, e, h⟩ := h
  subst e
  refine ⟨L, T ++ [(p, 1)], b, by simp, ?_⟩
  rcases h with ⟨hb, h⟩ | ⟨h1, h2⟩
  · refine .inl ⟨hb, fun z hz hm => ?_⟩
    rcases List.mem_append.mp hz with hz | hz
    · exact hA _ (h z hz hm)
    · have : z = (p, 1) := by simpa using hz
      rw [this]; exact hp
  · refine .inr ⟨fun z hz hm => ?_, fun z hz => ?_⟩
    · rcases List.mem_append.mp hz with hz | hz
      · exact hA _ (h1 z hz hm)
      · have : z = (p, 1) := by simpa using hz
        rw [this]; exact hp
    · rcases List.mem_append.mp hz with hz | hz
      · exact hA _ (h2 z hz)
      · have : z = (p, 1) := by simpa using hz
        rw [this]; exact hp
theorem fine_new {A : List Int} {p : Int} {R : List Row} : Fine A (R ++ [(p, 1)]) p := ⟨R, [], 1, rfl, .inl ⟨rfl, by simp⟩⟩
theorem fine_hit {A A' : List Int} {x p : Int} {R : List Row} (hA : ∀ z ∈ A, z ∈ A') (hp : p ∈ A') (h : Fine A R x) : Fine A' (R.map fun x => (x.1, if x.1 = p then 1 else x.2)) x := by
  obtain ⟨L, T, b, e, h⟩ := h
  subst e
  have mk : ∀ S : List Row, (∀ y ∈ S, y.2 = 1 → y.1 ∈ A) → ∀ y ∈ S.map (fun x => (x.1, if x.1 = p then (1 : Int) else x.2)), y.2 = 1 → y.1 ∈ A' := by
    intro S hS y hy hm
    obtain ⟨z, hz, rfl⟩ := List.mem_map.mp hy
    by_cases e : z.1 = p
    · show z.1 ∈ A'
      rw [e]; exact hp
    · simp only [if_neg e] at hm
      exact hA _ (hS z hz hm)
  refine ⟨L.map fun x => (x.1, if x.1 = p then 1 else x.2), T.map fun x => (x.1, if x.1 = p then 1 else x.2), if x = p then 1 else b, by simp, ?_⟩
  rcases h with ⟨hb, h⟩ | ⟨h1, h2⟩
  · exact .inl ⟨by rw [hb]; simp, mk T h⟩
  · refine .inr ⟨mk _ h1, fun y hy => ?_⟩
    obtain ⟨z, hz, rfl⟩ := List.mem_map.mp hy
    exact hA _ (h2 z hz)
/-- what was missed in this phase -/
structure CK (k : Nat) (a : Pha) (m : Nat) (s : Sta) : Prop where
  ex : ∃ N : List Int, N.Nodup ∧ (∀ x ∈ N, x ∈ a.2 ∧ Fine a.2 (rot s) x) ∧ m ≤ k * a.1 + N.length
  hand : (s.1.length : Int) < (k : Nat) → s.2 = 0
theorem fine_mem {A : List Int} {s : Sta} {x : Int} (h : Fine A (rot s) x) : x ∈ pagesS s := by
  obtain ⟨L, T, b, e, _⟩ := h
  have : (x, b) ∈ rot s := by rw [e]; simp
  exact List.mem_map.mpr ⟨_, rot_mem.mp this, rfl⟩
theorem CK.step {k : Nat} {a : Pha} {m : Nat} {s : Sta} {p : Int} (hk : 1 ≤ k) (pa : PhOk k a) (w : SOk "clock" (k : Nat) s) (h : CK k a m s) :
    CK k (phS k a p) (m + if (stepF "clock" (k : Nat) s p).2.1 = true then 0 else 1) (stepF "clock" (k : Nat) s p).1 := by
  obtain ⟨N, nN, hN, hm⟩ := h.ex
  obtain ⟨pk, pin⟩ := phS_ok (p := p) hk pa
  have hc := phS_cases (p := p) pa
  have hNk : N.length ≤ k := by have := sub_len nN fun x hx => (hN x hx).1; have := pa.len; omega
  by_cases hp : p ∈ pagesS s
  · have e : stepF "clock" (k : Nat) s p = (hitF "clock" s p, true, none) := by unfold stepF; rw [if_pos hp]
    have er : hitF "clock" s p = (s.1.map fun x => (x.1, if x.1 = p then 1 else x.2), s.2) := by
      unfold hitF
      rw [if_neg (by decide), if_neg (by decide), if_pos rfl]
    rw [e, er]
    refine ⟨?_, by simpa using h.hand⟩
    simp only [if_true, Nat.add_zero]
    rcases hc with ⟨e1, e2⟩ | ⟨e1, e2, e3, e4⟩
    · refine ⟨N, nN, fun x hx => ⟨e2 x (hN x hx).1, ?_⟩, by rw [e1]; exact hm⟩
      have := fine_hit e2 pin (hN x hx).2
      have er : rot (s.1.map (fun x => (x.1, if x.1 = p then (1 : Int) else x.2)), s.2) = (rot s).map fun x => (x.1, if x.1 = p then 1 else x.2) := by
        unfold rot
        rw [List.map_append, List.map_drop, List.map_take]
      rw [er]
      exact this
    · refine ⟨[], by simp, by simp, ?_⟩
      rw [e1, Nat.mul_add]
      simp
      omega
  · -- it is missed
    have hpN : p ∉ N := fun hx => hp (fine_mem (hN p hx).2)
    have hlt : (phS k a p).1 = a.1 → (∀ x ∈ a.2, x ∈ (phS k a p).2) → N.length < k := fun _ e2 => by
      have hn : (p :: N).Nodup := List.nodup_cons.mpr ⟨hpN, nN⟩
      have := sub_len hn (m := (phS k a p).2) fun x hx => by
        rcases List.mem_cons.mp hx with rfl | hx
        · exact pin
        · exact e2 x (hN x hx).1
      have := pk.len
      simp at *
      omega
    have fin : ∀ s' : Sta, (stepF "clock" (k : Nat) s p).2.1 = false → ((s'.1.length : Int) < (k : Nat) → s'.2 = 0) → Fine (phS k a p).2 (rot s') p → (∀ x ∈ N, (∀ x ∈ a.2, x ∈ (phS k a p).2) → Fine (phS k a p).2 (rot s') x) →
        CK k (phS k a p) (m + if (stepF "clock" (k : Nat) s p).2.1 = true then 0 else 1) s' := by
      intro s' hb hh hpf hxf
      refine ⟨?_, hh⟩
      rw [hb, if_neg (by decide)]
      rcases hc with ⟨e1, e2⟩ | ⟨e1, e2, e3, e4⟩
      · refine ⟨p :: N, List.nodup_cons.mpr ⟨hpN, nN⟩, fun x hx => ?_, by rw [e1, List.length_cons]; omega⟩
        rcases List.mem_cons.mp hx with rfl | hx
        · exact ⟨pin, hpf⟩
        · exact ⟨e2 x (hN x hx).1, hxf x hx e2⟩
      · refine ⟨[p], by simp, fun x hx => ?_, ?_⟩
        · have : x = p := by simpa using hx
          subst this
          exact ⟨pin, hpf⟩
        · rw [e1, Nat.mul_add]
          simp
          omega
    by_cases hl : (s.1.length : Int) < (k : Nat)
    · have e : stepF "clock" (k : Nat) s p = ((s.1 ++ [(p, 1)], s.2), false, none) := by
        unfold stepF missF; rw [if_neg hp, if_pos hl]; rfl
      have h0 := h.hand hl
      have er : rot (s.1 ++ [(p, 1)], s.2) = rot s ++ [(p, 1)] := by
        unfold rot
        rw [h0]
        simp
      rw [show (stepF "clock" (k : Nat) s p).1 = (s.1 ++ [(p, 1)], s.2) by rw [e]]
      refine fin _ (by rw [e]) (fun _ => h0) ?_ fun x hx e2 => ?_
      · rw [er]; exact fine_new
      · rw [er]; exact fine_room e2 pin (hN x hx).2
    · have hne : s.1 ≠ [] := by intro e; rw [e] at hl; simp at hl; omega
      have hlen : s.1.length = k := by have := w.len; omega
      have hh : s.2 < s.1.length := by
        rcases w.hand with h | ⟨_, h⟩
        · rw [h]; omega
        · exact h
      have hL : loserF "clock" s [] = some ((clockRun [] (2 * s.1.length) s.1 s.2).2, clockRun [] (2 * s.1.length) s.1 s.2) := by
        unfold loserF
        rw [someF_nil]
        cases e : s.1 with
        | nil => exact absurd e hne
        | cons y ys =>
          rw [List.length_cons, List.range_succ_eq_map]
          simp only
          rw [if_neg (by decide), if_neg (by decide), if_neg (by decide), if_neg (by decide)]
      have ql := clock_len [] (2 * s.1.length) s.1 s.2
      have qh := clock_hand [] (2 * s.1.length) s.1 s.2 hh
      have qe := clock_end (2 * s.1.length) s.1 s.2 hh (by have := List.countP_le_length (p := fun x : Row => decide (x.2 = 1)) (l := s.1); omega)
      have qf : ∀ x ∈ N, Fine a.2 (rot (clockRun [] (2 * s.1.length) s.1 s.2)) x := fun x hx => clock_pres (fun R => Fine a.2 R x) (fun y R => fine_rot) _ _ _ hh (hN x hx).2
      have qp := clock_pages [] (2 * s.1.length) s.1 s.2
      generalize clockRun [] (2 * s.1.length) s.1 s.2 = q at *
      obtain ⟨rows, i⟩ := q
      simp only at ql qh qe qp hL
      have hi : i < rows.length := by omega
      have eset : rows.take i ++ [(p, (1 : Int))] ++ rows.drop (i + 1) = rows.set i (p, 1) := by
        rw [List.set_eq_take_append_cons_drop, if_pos hi]
        simp
      have e : stepF "clock" (k : Nat) s p = ((rows.set i (p, 1), (i + 1) % rows.length), false, some (rwA rows i).1) := by
        unfold stepF missF
        rw [if_neg hp, if_neg hl, hL]
        simp only [if_true]
        rw [eset, List.length_set]
      have er : rot (rows.set i (p, 1), (i + 1) % rows.length) = rows.drop (i + 1) ++ rows.take i ++ [(p, 1)] := rot_set hi _
      rw [show (stepF "clock" (k : Nat) s p).1 = (rows.set i (p, 1), (i + 1) % rows.length) by rw [e]]
      have eq : rot (rows, i) = rwA rows i :: (rows.drop (i + 1) ++ rows.take i) := rot_cons (rw_at hi)
      have hmem : ∀ z, z ∈ (rot (rows, i)).map (·.1) ↔ z ∈ pagesS s := fun z => by
        have : pagesS s = rows.map (·.1) := qp.symm
        rw [this, List.mem_map, List.mem_map]
        constructor
        · rintro ⟨u, h1, h2⟩; exact ⟨u, rot_mem.mp h1, h2⟩
        · rintro ⟨u, h1, h2⟩; exact ⟨u, rot_mem.mpr h1, h2⟩
      refine fin _ (by rw [e]) (fun hc => ?_) ?_ fun x hx e2 => ?_
      · simp at hc
        omega
      · rw [er]; exact fine_new
      · rw [er]
        have hf := qf x hx
        rw [eq] at hf
        rw [eq] at hmem
        refine fine_out e2 pin (hN x hx).1 qe ?_ (fun hc => hp ((hmem p).mp hc)) ?_ hf
        · have hnd : (rows.map (·.1)).Nodup := by rw [qp]; exact w.nd
          rw [← eq]
          unfold rot
          simp only [List.map_append]
          rw [(List.perm_append_comm).nodup_iff, ← List.map_append, List.take_append_drop]
          exact hnd
        · rw [← eq]
          unfold rot
          simp
          have := pk.len
          omega
theorem CK.run {k : Nat} (hk : 1 ≤ k) (h6 : k ≤ 6) : ∀ (ps : List Int) {s : Sta} {a : Pha} {m : Nat}, SOk "clock" (k : Nat) s → PhOk k a → CK k a m s →
    m + missesL (runG "clock" (k : Nat) s ps).1 ≤ k * (phases k a ps).1 + (phases k a ps).2.length
  | [], s, a, m, w, pa, h => by
    obtain ⟨N, nN, hN, hm⟩ := h.ex
    have := sub_len nN fun x hx => (hN x hx).1
    show m + 0 ≤ k * a.1 + a.2.length
    omega
  | p :: ps, s, a, m, w, pa, h => by
    have s1 := step_ok (p := p) (r := "clock") (by decide) (size := (k : Nat)) (by omega) w
    have := CK.run hk h6 ps s1.ok (phS_ok (p := p) hk pa).1 (h.step (p := p) hk pa w)
    unfold runG
    rw [missesL_cons]
    show _ ≤ k * (phases k (phS k a p) ps).1 + (phases k (phS k a p) ps).2.length
    omega
theorem clock_bound {k : Nat} (hk : 1 ≤ k) (h6 : k ≤ 6) (ps : List Int) : missN "clock" (k : Nat) ps ≤ k * (phases k (0, []) ps).1 + (phases k (0, []) ps).2.length := by
  have := CK.run hk h6 ps (s := sta0) (a := (0, [])) (m := 0) (sok0 (by omega)) ⟨by simp, by simp⟩ ⟨⟨[], by simp, by simp, by simp⟩, fun _ => rfl⟩
  unfold missN
  omega
end Cb

set_option Elab.async false
set_option linter.all false
set_option maxRecDepth 100000
set_option maxHeartbeats 4000000
/-! What the program's defs compute: what goes if that goes which comes again last. -/
namespace Cb
open PySem PySem.Spec PyProof.Rows L2 Dl
def nextF (ps : List Int) (n : Nat) (p : Int) : Nat := n + 1 + (ps.drop (n + 1)).findIdx (fun x => decide (x = p))
def goneF (ps : List Int) (n : Nat) : List Int → Int
  | [] => 0
  | h :: t => (minP (0 - (nextF ps n h : Int), h) (t.map fun x => (0 - (nextF ps n x : Int), x))).2
abbrev Far := List Int × List (Option Int) × Nat
def farS (size : Int) (ps : List Int) (n : Nat) (p : Int) (s : Far) : Far :=
  if p ∈ s.1 then (s.1, s.2.1 ++ [none], s.2.2)
  else if (s.1.length : Int) = size then (s.1.erase (goneF ps n s.1) ++ [p], s.2.1 ++ [some (goneF ps n s.1)], s.2.2 + 1)
  else (s.1 ++ [p], s.2.1 ++ [none], s.2.2 + 1)
def farR (size : Int) (ps : List Int) : Nat → Far
  | 0 => ([], [], 0)
  | n + 1 => match ps[n]? with
    | none => farR size ps n
    | some p => farS size ps n p (farR size ps n)
@[irreducible] def farN (size : Int) (ps : List Int) (n : Nat) : Far := farR size ps n
theorem farN_0 (size : Int) (ps : List Int) : farN size ps 0 = ([], [], 0) := by unfold farN; rfl
theorem farN_s (size : Int) (ps : List Int) (n : Nat) : farN size ps (n + 1) = match ps[n]? with
    | none => farN size ps n
    | some p => farS size ps n p (farN size ps n) := by unfold farN; rfl
def dsp_next_ask (K : PySem.W.Frag) : DSp := fun ds G Q _ => ∃ ps n p, ds = [tupI ps, dI (n : Nat), dI p] ∧ n < ps.length ∧ ps.length ≤ 1000 ∧ Q (dI (nextF ps n p : Nat)) G
def dsp_farthest (K : PySem.W.Frag) : DSp := fun ds G Q _ => ∃ size ps, ds = [dI size, tupI ps] ∧ 1 ≤ size ∧ size ≤ 6 ∧ ps.length ≤ 60 ∧ (∀ p ∈ ps, 0 ≤ p ∧ p ≤ 9) ∧
  ∀ p, G p = none → Q (.tup [dI ((farN size ps ps.length).2.2 : Nat), dR p]) (gu G p (.lst ((farN size ps ps.length).2.1.map eOpt)))
abbrev N_next_ask : List Str := ["stream", "number", "page", "later"]
abbrev ps_next_ask : List Str := ["stream", "number", "page"]
@[simp] theorem st_next_ask (x0 x1 x2 : D) : startD N_next_ask [x0, x1, x2] = [some x0, some x1, some x2, none] := rfl
def t_next_ask (K : PySem.W.Frag) (WD : XDW) : TDS := (dSeq (dFor K (iRng2D (dCons (dOp dAdd (dVar 1) (dC (dI 1))) (dCons (dBi dLen (dCons (dVar 0) dNil)) dNil))) (gN 3) (dIfS (dTest (dOp dEq (dOp dIx (dVar 0) (dVar 3)) (dVar 2))) (dRet (dVar 3)) dNext))
  (dRet (dBi dLen (dCons (dVar 0) dNil))))
abbrev N_farthest : List Str := ["size", "stream", "held", "rows", "many", "number", "page", "gone", "one"]
abbrev ps_farthest : List Str := ["size", "stream"]
@[simp] theorem st_farthest (x0 x1 : D) : startD N_farthest [x0, x1] = [some x0, some x1, none, none, none, none, none, none, none] := rfl
def t_farthest_1 (K : PySem.W.Frag) (WD : XDW) : TDS := (dDrop (dBm "list" dRemove (dVar 2) (dCons (dVar 7) dNil)))
def t_farthest_2 (K : PySem.W.Frag) (WD : XDW) : TDS := (dDrop (dBm "list" dAppend (dVar 2) (dCons (dVar 6) dNil)))
def t_farthest_3 (K : PySem.W.Frag) (WD : XDW) : TDS := (dSeq (dIfS (dTest (dOp dEq (dBi dLen (dCons (dVar 2) dNil)) (dVar 0))) (dSeq (dAsg (dOp dIx (dBi (dBest PySem.W.minD) (dCons (dLc K (iLstD (dVar 2)) (gN 8) dYes (dTup (dCons (dOp (dI0 fun i j => .int (i - j)) (dC (dI 0)) (dCall (dsp_next_ask K) noX (dCons (dVar 1) (dCons (dVar 5) (dCons (dVar 8) dNil))))) (dCons (dVar 8) dNil))) [8]) dNil)) (dC (dI 1))) (gN 7))
  (t_farthest_1 K WD)) dNext)
  (t_farthest_2 K WD))
def t_farthest_4 (K : PySem.W.Frag) (WD : XDW) : TDS := (dDrop (dBm "list" dAppend (dVar 3) (dCons (dVar 7) dNil)))
def t_farthest_5 (K : PySem.W.Frag) (WD : XDW) : TDS := (dSeq (dIfS (dTest (dOp dNotin (dVar 6) (dVar 2))) (dSeq (dAug 4 (dC (dI 1)) (fun i j => i + j))
  (t_farthest_3 K WD)) dNext)
  (t_farthest_4 K WD))
def t_farthest_6 (K : PySem.W.Frag) (WD : XDW) : TDS := (dRet (dTup (dCons (dVar 4) (dCons (dVar 3) dNil))))
def t_farthest_7 (K : PySem.W.Frag) (WD : XDW) : TDS := (dSeq (dFor K (iEnTD (dCons (dVar 1) dNil)) (gT 2 (gC (gN 5) (gC (gN 6) gE))) (dSeq (dAsg (dC dN) (gN 7))
  (t_farthest_5 K WD)))
  (t_farthest_6 K WD))
def t_farthest_8 (K : PySem.W.Frag) (WD : XDW) : TDS := (dSeq (dPar3 2 3 4 (dCons (dLst dNil) (dCons (dLst dNil) (dCons (dC (dI 0)) dNil))))
  (t_farthest_7 K WD))
def t_farthest_9 (K : PySem.W.Frag) (WD : XDW) : TDS := (dSeq (dDrop (dCall (dsp_need_stream K) WD (dCons (dVar 1) dNil)))
  (t_farthest_8 K WD))
def t_farthest (K : PySem.W.Frag) (WD : XDW) : TDS := (dSeq (dDrop (dCall (dsp_need_size K) WD (dCons (dVar 0) dNil)))
  (t_farthest_9 K WD))
theorem gone_in {ps : List Int} {n : Nat} {held : List Int} (h : held ≠ []) : goneF ps n held ∈ held := by
  cases held with
  | nil => exact absurd rfl h
  | cons x t =>
    unfold goneF
    have := minP_in (0 - (nextF ps n x : Int), x) (t.map fun x => (0 - (nextF ps n x : Int), x))
    show (minP (0 - (nextF ps n x : Int), x) (t.map fun x => (0 - (nextF ps n x : Int), x))).2 ∈ x :: t
    rcases List.mem_cons.mp this with h | h
    · rw [h]; simp
    · obtain ⟨y, hy, e⟩ := List.mem_map.mp h
      rw [← e]
      exact List.mem_cons_of_mem _ hy
theorem farN_succ {size : Int} {ps : List Int} {i : Nat} {p : Int} (hp : ps[i]? = some p) : farN size ps (i + 1) = farS size ps i p (farN size ps i) := by
  rw [farN_s, hp]
theorem farS_len {size : Int} {ps : List Int} {n : Nat} {p : Int} {s : Far} (hs : 1 ≤ size) (h : (s.1.length : Int) ≤ size) : ((farS size ps n p s).1.length : Int) ≤ size := by
  unfold farS
  by_cases hp : p ∈ s.1
  · rw [if_pos hp]; exact h
  · rw [if_neg hp]
    by_cases hl : (s.1.length : Int) = size
    · rw [if_pos hl]
      have hne : s.1 ≠ [] := by intro e; rw [e] at hl; simp at hl; omega
      have hg := gone_in (ps := ps) (n := n) hne
      have := List.length_pos_of_mem hg
      simp only [List.length_append, List.length_erase_of_mem hg, List.length_singleton]
      omega
    · rw [if_neg hl]
      simp
      omega
theorem farN_len {size : Int} {ps : List Int} (hs : 1 ≤ size) : ∀ n, ((farN size ps n).1.length : Int) ≤ size ∧ (farN size ps n).2.1.length ≤ n
  | 0 => ⟨by simp [farN_0]; omega, by simp [farN_0]⟩
  | n + 1 => by
    obtain ⟨h1, h2⟩ := farN_len (ps := ps) hs n
    rw [farN_s]
    split
    · exact ⟨h1, by omega⟩
    · refine ⟨farS_len hs h1, ?_⟩
      unfold farS
      split
      · simp; omega
      · split <;> simp <;> omega
section
variable {K : PySem.W.Frag} {ds : List D} {G : GH} {QD : DK} {ED : XD}
theorem len_next_ask {Q : DK} {E : XD} (h : dsp_next_ask K ds G Q E) : ds.length = ps_next_ask.length := by
  obtain ⟨_, _, _, rfl, _⟩ := h; rfl
theorem len_farthest {Q : DK} {E : XD} (h : dsp_farthest K ds G Q E) : ds.length = ps_farthest.length := by
  obtain ⟨_, _, rfl, _⟩ := h; rfl
theorem pure_next_ask (h : dsp_next_ask K ds G QD ED) : t_next_ask K (excD K ED) (retD K QD) (startD N_next_ask ds) G := by
  obtain ⟨ps, n, p, rfl, hn, hl, hQ⟩ := h
  unfold t_next_ask
  rw [s_dSeq]
  refine dfor_w ?_
  simp only [s_iRng2D, s_dCons, s_dNil, s_dOp, s_dBi, s_dLen, s_dVar, s_dC, s_dAdd, gs_0, gs_s, st_next_ask, List.length_map]
  refine ⟨by omega, fun i δ' G' => (∃ x3, δ' = [some (tupI ps), some (dI (n : Nat)), some (dI p), x3]) ∧ G' = G ∧ ∀ j, j < i → ∀ x, (ps.drop (n + 1))[j]? = some x → x ≠ p, ⟨⟨none, rfl⟩, rfl, fun j hj => absurd hj (Nat.not_lt_zero j)⟩, fun _ _ _ _ => trivial, ?_, ?_⟩
  · rintro i x δ' G' hx ⟨⟨x3, rfl⟩, rfl, hno⟩
    obtain ⟨hi, rfl⟩ := rgD_of hx
    have hi' : n + 1 + i < ps.length := by omega
    have e : (n : Int) + 1 + i = ((n + 1 + i : Nat) : Int) := by omega
    rw [e]
    have hat : ps[n + 1 + i]? = some ps[n + 1 + i] := List.getElem?_eq_getElem hi'
    have hdr : (ps.drop (n + 1))[i]? = some ps[n + 1 + i] := by rw [List.getElem?_drop]; exact hat
    generalize ps[n + 1 + i] = y at hat hdr
    simp only [s_gN, ss_0, ss_s, s_dIfS, s_dTest, s_dOp, s_dIx, s_dVar, gs_0, gs_s]
    refine ⟨dI y, at_natA (by rw [List.getElem?_map, hat]; rfl), ?_⟩
    simp only [s_dEqF, id]
    refine ⟨fun h => ?_, fun h => ?_⟩
    · have h : y = p := by simpa using h
      subst h
      have hf : (ps.drop (n + 1)).findIdx (fun x => decide (x = y)) = i := by
        have hil : i < (ps.drop (n + 1)).length := (List.getElem?_eq_some_iff.mp hdr).1
        rw [List.findIdx_eq hil]
        refine ⟨by have := (List.getElem?_eq_some_iff.mp hdr).2; simp [this], fun j hji => ?_⟩
        have := hno j hji _ (List.getElem?_eq_getElem (by omega))
        simpa using this
      have hv : nextF ps n y = n + 1 + i := by unfold nextF; rw [hf]
      rw [hv] at hQ
      simp only [s_dRet, s_dVar, gs_0, gs_s]
      exact ret_same (K := K) hQ
    · have h : y ≠ p := by simpa using h
      refine ⟨G', Ent.refl _, ⟨_, rfl⟩, rfl, fun j hj z hz => ?_⟩
      by_cases e : j = i
      · subst e
        rw [hdr] at hz
        rw [← Option.some.inj hz]
        exact h
      · exact hno j (by omega) z hz
  · rintro δ' G' ⟨⟨x3, rfl⟩, rfl, hno⟩
    rw [rgD_len] at hno
    have hf : (ps.drop (n + 1)).findIdx (fun x => decide (x = p)) = (ps.drop (n + 1)).length := by
      rw [List.findIdx_eq_length]
      intro x hx
      obtain ⟨j, hj⟩ := List.mem_iff_getElem?.mp hx
      have hjl := (List.getElem?_eq_some_iff.mp hj).1
      rw [List.length_drop] at hjl
      have := hno j (by omega) x hj
      simpa using this
    have hv : nextF ps n p = ps.length := by unfold nextF; rw [hf, List.length_drop]; omega
    rw [hv] at hQ
    simp only [s_dRet, s_dBi, s_dLen, s_dCons, s_dNil, s_dVar, gs_0, gs_s, List.length_map]
    exact ret_same (K := K) hQ
section
variable {size : Int} {ps : List Int} {h r : Addr} {rows : List (Option Int)} {held : List Int} {m0 i : Nat} {p : Int} {G' : GH} {x5 x6 x7 x8 : Option D} {E : DEnds} {WD : XDW}
theorem far4 {held' : List Int} {o : Option Int} {many : Nat} (rh : r ≠ h) (hr0 : G r = none) (hrl : rows.length ≤ 1000) (h1 : G' h = some (.lst (held'.map dI))) (h2 : G' r = some (.lst (rows.map eOpt))) (h3 : Le G G')
    (fin : ∀ G3, G3 h = some (.lst (held'.map dI)) → G3 r = some (.lst ((rows ++ [o]).map eOpt)) → Le G G3 → E.nx [some (dI size), some (tupI ps), some (dR h), some (dR r), some (dI (many : Nat)), some (dI (i : Nat)), some (dI p), some (eOpt o), x8] G3) :
    t_farthest_4 K WD E [some (dI size), some (tupI ps), some (dR h), some (dR r), some (dI (many : Nat)), some (dI (i : Nat)), some (dI p), some (eOpt o), x8] G' := by
  unfold t_farthest_4
  simp only [s_dDrop, s_dBm, s_dVar, s_dCons, s_dNil, gs_0, gs_s, s_dAppend]
  refine ⟨.inl ⟨rfl, _, h2⟩, _, h2, by rw [List.length_map, zL_val]; omega, fin _ (by rw [gu_ne (Ne.symm rh)]; exact h1) (by rw [gu_same]; simp) ?_⟩
  exact fun b n hb => by
    have hb1 := h3 b n hb
    have : b ≠ r := fun e => by rw [e, hr0] at hb; cases hb
    rw [gu_ne this]; exact hb1
theorem far3 (hs : 1 ≤ size) (hs6 : size ≤ 6) (hl : ps.length ≤ 60) (hi : i < ps.length) (rh : r ≠ h) (hr0 : G r = none) (hh : G h = none) (h1 : G' h = some (.lst (held.map dI))) (h2 : G' r = some (.lst (rows.map eOpt))) (h3 : Le G G') (hlen : (held.length : Int) ≤ size) (hrl : rows.length ≤ i) (hp : p ∉ held)
    (fin : ∀ G3 held' rows' many' x5 x6 x7 x8, G3 h = some (.lst (held'.map dI)) → G3 r = some (.lst (rows'.map eOpt)) → Le G G3 → farS size ps i p (held, rows, m0) = (held', rows', many') → E.nx [some (dI size), some (tupI ps), some (dR h), some (dR r), some (dI (many' : Nat)), x5, x6, x7, x8] G3) :
    t_farthest_3 K WD { E with nx := t_farthest_4 K WD E } [some (dI size), some (tupI ps), some (dR h), some (dR r), some (dI ((m0 + 1 : Nat) : Int)), some (dI (i : Nat)), some (dI p), some dN, x8] G' := by
  have app : ∀ (G2 : GH) (held2 : List Int) (o : Option Int) x8, G2 h = some (.lst (held2.map dI)) → G2 r = some (.lst (rows.map eOpt)) → Le G G2 → held2.length ≤ 10 → farS size ps i p (held, rows, m0) = (held2 ++ [p], rows ++ [o], m0 + 1) →
      t_farthest_2 K WD { E with nx := t_farthest_4 K WD E } [some (dI size), some (tupI ps), some (dR h), some (dR r), some (dI ((m0 + 1 : Nat) : Int)), some (dI (i : Nat)), some (dI p), some (eOpt o), x8] G2 := by
    intro G2 held2 o x8 k1 k2 k3 kl e
    unfold t_farthest_2
    simp only [s_dDrop, s_dBm, s_dVar, s_dCons, s_dNil, gs_0, gs_s, s_dAppend]
    refine ⟨.inl ⟨rfl, _, k1⟩, _, k1, by rw [List.length_map, zL_val]; omega, ?_⟩
    refine far4 (K := K) (WD := WD) (held' := held2 ++ [p]) rh hr0 (by omega) (by rw [gu_same]; simp) (by rw [gu_ne rh]; exact k2) (fun b n hb => ?_) fun G3 a1 a2 a3 => fin _ _ _ _ _ _ _ _ a1 a2 a3 e
    have hb1 := k3 b n hb
    have : b ≠ h := fun e => by rw [e, hh] at hb; cases hb
    rw [gu_ne this]; exact hb1
  unfold t_farthest_3
  simp only [s_dSeq, s_dIfS, s_dTest, s_dOp, s_dBi, s_dLen, s_dCons, s_dNil, s_dVar, gs_0, gs_s]
  refine ⟨_, congrArg szMO h1, ?_⟩
  simp only [s_dEqF, id, List.length_map]
  refine ⟨fun hc => ?_, fun hc => ?_⟩
  · have hc : (held.length : Int) = size := by simpa using hc
    have hne : held ≠ [] := by intro e; rw [e] at hc; simp at hc; omega
    have hgm := gone_in (ps := ps) (n := i) hne
    rw [s_dAsg]
    simp only [s_dOp, s_dBi, s_dCons, s_dNil]
    refine dlc_pure (held.map dI) (fun d => match d with | .at (.int x) => eP (0 - (nextF ps i x : Int), x) | d => d) (fun _ => true) (fun R hR => ?_) (by rw [List.length_map, zL_val]; omega) ?_ ?_
    · simp only [s_iLstD, s_dVar, gs_0, gs_s]
      refine ⟨_, h1, hR _ fun q acc hq => ?_⟩
      have : h ≠ q := fun e => by rw [← e, h1] at hq; cases hq
      rw [gu_ne this]; exact h1
    · intro q hq x hx acc Qt Qf q1 q2
      obtain ⟨y, hy, rfl⟩ := List.mem_map.mp hx
      simp only [s_gN, wsAll_c, wsAll_n, ws_0, ws_s, ss_0, ss_s, s_dYes, s_dTup, s_dCons, s_dNil, s_dOp, s_dCall, s_dVar, s_dC, gs_0, gs_s]
      refine ⟨fun _ => ⟨ps, i, y, rfl, hi, by omega, ?_⟩, fun h => by cases h⟩
      simp only [s_dI0]
      exact ⟨by simp, q1 rfl⟩
    · intro q hq
      rw [filt_all]
      have hqh : q ≠ h := fun e => by rw [e, h1] at hq; cases hq
      have hqr : q ≠ r := fun e => by rw [e, h2] at hq; cases hq
      cases held with
      | nil => exact absurd rfl hne
      | cons x t =>
        have el : ((x :: t).map dI).map (fun d => match d with | .at (.int x) => eP (0 - (nextF ps i x : Int), x) | d => d) = ((0 - (nextF ps i x : Int), x) :: t.map fun x => (0 - (nextF ps i x : Int), x)).map eP := by
          simp [List.map_map, Function.comp_def]
        rw [el]
        refine best_min gu_same ?_
        have eg : eP (minP (0 - (nextF ps i x : Int), x) (t.map fun x => (0 - (nextF ps i x : Int), x))) = .tup [dI (minP (0 - (nextF ps i x : Int), x) (t.map fun x => (0 - (nextF ps i x : Int), x))).1, dI (goneF ps i (x :: t))] := rfl
        rw [eg]
        simp only [s_dC, s_dIx]
        refine ⟨_, at_natA (n := 1) rfl, ?_⟩
        simp only [s_gN, ss_0, ss_s]
        generalize hgg : goneF ps i (x :: t) = g at hgm
        unfold t_farthest_1
        simp only [s_dDrop, s_dBm, s_dVar, s_dCons, s_dNil, gs_0, gs_s, s_dRemove]
        have k1 : (gu G' q (.lst (((0 - (nextF ps i x : Int), x) :: t.map fun x => (0 - (nextF ps i x : Int), x)).map eP))) h = some (.lst ((x :: t).map dI)) := by rw [gu_ne (Ne.symm hqh)]; exact h1
        refine ⟨.inl ⟨rfl, _, k1⟩, x :: t, k1, hgm, ?_⟩
        refine app _ ((x :: t).erase g) (some g) x8 gu_same ?_ (fun b n hb => ?_) ?_ ?_
        · rw [gu_ne rh, gu_ne (Ne.symm hqr)]; exact h2
        · have hb1 := h3 b n hb
          have bh : b ≠ h := fun e => by rw [e, hh] at hb; cases hb
          have bq : b ≠ q := fun e => by rw [e, hq] at hb1; cases hb1
          rw [gu_ne bh, gu_ne bq]
          exact hb1
        · rw [List.length_erase_of_mem hgm]
          omega
        · unfold farS
          rw [if_neg hp, if_pos hc, hgg]
  · have hc : ¬ (held.length : Int) = size := by simpa using hc
    refine app G' held none x8 h1 h2 h3 (by omega) ?_
    unfold farS
    rw [if_neg hp, if_neg hc]
theorem far5 (hs : 1 ≤ size) (hs6 : size ≤ 6) (hl : ps.length ≤ 60) (hi : i < ps.length) (rh : r ≠ h) (hr0 : G r = none) (hh : G h = none) (h1 : G' h = some (.lst (held.map dI))) (h2 : G' r = some (.lst (rows.map eOpt))) (h3 : Le G G') (hlen : (held.length : Int) ≤ size) (hrl : rows.length ≤ i)
    (fin : ∀ G3 held' rows' many' x5 x6 x7 x8, G3 h = some (.lst (held'.map dI)) → G3 r = some (.lst (rows'.map eOpt)) → Le G G3 → farS size ps i p (held, rows, m0) = (held', rows', many') → E.nx [some (dI size), some (tupI ps), some (dR h), some (dR r), some (dI (many' : Nat)), x5, x6, x7, x8] G3) :
    t_farthest_5 K WD E [some (dI size), some (tupI ps), some (dR h), some (dR r), some (dI (m0 : Nat)), some (dI (i : Nat)), some (dI p), some dN, x8] G' := by
  unfold t_farthest_5
  simp only [s_dSeq, s_dIfS, s_dTest, s_dOp, s_dVar, gs_0, gs_s]
  show dInF not (dI p) (dR h) _ _
  refine .inl ⟨_, h1, rfl, flat_ints _, ?_⟩
  rw [inD_ints]
  refine ⟨fun hc => ?_, fun hc => ?_⟩
  · have hc : p ∉ held := by simpa using hc
    simp only [s_dAug, s_dC, gs_0, gs_s, ss_0, ss_s]
    have em : (m0 : Int) + 1 = ((m0 + 1 : Nat) : Int) := by omega
    rw [em]
    exact far3 (K := K) (WD := WD) hs hs6 hl hi rh hr0 hh h1 h2 h3 hlen hrl hc fin
  · have hc : p ∈ held := by simpa using hc
    refine far4 (K := K) (WD := WD) (o := none) rh hr0 (by omega) h1 h2 h3 fun G3 a1 a2 a3 => fin _ _ _ _ _ _ _ _ a1 a2 a3 ?_
    unfold farS
    rw [if_pos hc]
end
end
end Cb

set_option Elab.async false
set_option linter.all false
set_option maxRecDepth 100000
set_option maxHeartbeats 4000000
/-! What the program's defs compute: farthest. -/
namespace Cb
open PySem PySem.Spec PyProof.Rows L2 Dl
section
variable {K : PySem.W.Frag} {ds : List D} {G : GH} {QD : DK} {ED : XD}
section
variable {size : Int} {ps : List Int} {h r : Addr} {rows : List (Option Int)} {held : List Int} {m0 i : Nat} {p : Int} {G' : GH} {x5 x6 x7 x8 : Option D} {E : DEnds} {WD : XDW}
theorem far6 (hs : 1 ≤ size) (hs6 : size ≤ 6) (hl : ps.length ≤ 60) (hi : i < ps.length) (rh : r ≠ h) (hr0 : G r = none) (hh : G h = none) (h1 : G' h = some (.lst (held.map dI))) (h2 : G' r = some (.lst (rows.map eOpt))) (h3 : Le G G') (hlen : (held.length : Int) ≤ size) (hrl : rows.length ≤ i)
    (fin : ∀ G3 held' rows' many' x5 x6 x7 x8, G3 h = some (.lst (held'.map dI)) → G3 r = some (.lst (rows'.map eOpt)) → Le G G3 → farS size ps i p (held, rows, m0) = (held', rows', many') → E.nx [some (dI size), some (tupI ps), some (dR h), some (dR r), some (dI (many' : Nat)), x5, x6, x7, x8] G3) :
    gT 2 (gC (gN 5) (gC (gN 6) gE)) (.tup [dI (i : Nat), dI p]) [some (dI size), some (tupI ps), some (dR h), some (dR r), some (dI (m0 : Nat)), x5, x6, x7, x8] G' fun δ1 G2 => dSeq (dAsg (dC dN) (gN 7)) (t_farthest_5 K WD) E δ1 G2 := by
  have key : dSeq (dAsg (dC dN) (gN 7)) (t_farthest_5 K WD) E [some (dI size), some (tupI ps), some (dR h), some (dR r), some (dI (m0 : Nat)), some (dI (i : Nat)), some (dI p), x7, x8] G' := by
    rw [s_dSeq, s_dAsg, s_dC, s_gN]
    exact far5 (K := K) (WD := WD) hs hs6 hl hi rh hr0 hh h1 h2 h3 hlen hrl fin
  exact ⟨rfl, rfl, key⟩
end
theorem pure_farthest (h : dsp_farthest K ds G QD ED) : t_farthest K (excD K ED) (retD K QD) (startD N_farthest ds) G := by
  obtain ⟨size, ps, rfl, hs, hs6, hl, h9, hQ⟩ := h
  unfold t_farthest
  simp only [s_dSeq, s_dDrop, s_dCall, s_dCons, s_dNil, s_dVar, gs_0, gs_s, st_farthest]
  refine ⟨size, rfl, fun _ => ?_, fun h => absurd ⟨hs, hs6⟩ h⟩
  unfold t_farthest_9
  simp only [s_dSeq, s_dDrop, s_dCall, s_dCons, s_dNil, s_dVar, gs_0, gs_s]
  refine ⟨ps, rfl, hl, h9, ?_⟩
  unfold t_farthest_8
  simp only [s_dSeq, s_dPar3, s_dLst, s_dC, s_dCons, s_dNil, ss_0, ss_s]
  refine ⟨by simp, fun h hh => ⟨by simp, fun r hr => ?_⟩⟩
  obtain ⟨rh, hr0⟩ := gu_none hr
  unfold t_farthest_7
  rw [s_dSeq]
  refine dfor_w ?_
  simp only [s_iEnTD, s_dCons, s_dNil, s_dVar, gs_0, gs_s]
  refine ⟨fun i δ' G' => ∃ many x5 x6 x7 x8, δ' = [some (dI size), some (tupI ps), some (dR h), some (dR r), some (dI (many : Nat)), x5, x6, x7, x8] ∧ many = (farN size ps i).2.2 ∧ i ≤ ps.length ∧ G' h = some (.lst ((farN size ps i).1.map dI)) ∧ G' r = some (.lst ((farN size ps i).2.1.map eOpt)) ∧ Le G G',
    ⟨0, none, none, none, none, rfl, by rw [farN_0], by omega, by rw [gu_ne (Ne.symm rh), gu_same, farN_0]; rfl, by rw [gu_same, farN_0]; rfl, (Le.new hh).trans (Le.new hr)⟩, fun _ _ _ _ => trivial, ?_, ?_⟩
  · rintro i x δ' G' hx ⟨many, x5, x6, x7, x8, rfl, hm, hil, hGh, hGr, hle⟩
    obtain ⟨d, hd, rfl⟩ := enD_of hx
    obtain ⟨p, hp, rfl⟩ := ints_get hd
    have hi := (List.getElem?_eq_some_iff.mp hp).1
    have eN : farN size ps (i + 1) = farS size ps i p (farN size ps i) := farN_succ hp
    obtain ⟨hlen, hrl⟩ := farN_len (ps := ps) hs i
    have est : farN size ps i = ((farN size ps i).1, (farN size ps i).2.1, many) := Prod.ext rfl (Prod.ext rfl hm.symm)
    refine far6 hs hs6 hl hi rh hr0 hh hGh hGr hle hlen hrl fun G3 held' rows' many' x5 x6 x7 x8 h1 h2 h3 e => ?_
    rw [← est, ← eN] at e
    exact ⟨G3, Ent.refl _, many', x5, x6, x7, x8, rfl, by rw [e], by omega, by rw [e]; exact h1, by rw [e]; exact h2, h3⟩
  · rintro δ' G' ⟨many, x5, x6, x7, x8, rfl, hm, hil, hGh, hGr, hle⟩
    rw [enD_len, List.length_map] at hm hGr
    unfold t_farthest_6
    simp only [s_dRet, s_dTup, s_dCons, s_dNil, s_dVar, gs_0, gs_s]
    refine ⟨by simp, ?_⟩
    have hQ := hQ r hr0
    rw [← hm] at hQ
    refine ⟨_, Ent.le ?_, hQ⟩
    intro b n hb
    by_cases e : b = r
    · subst e
      rw [gu_same] at hb
      rw [hGr]
      exact hb
    · rw [gu_ne e] at hb
      exact hle b n hb
end
end Cb

set_option Elab.async false
set_option linter.all false
set_option maxRecDepth 100000
set_option maxHeartbeats 4000000
/-! Pages by other names: rules. -/
namespace Cb
open PySem PySem.Spec PyProof.Rows L2 Dl
abbrev Inj (π : Int → Int) : Prop := ∀ a b, π a = π b → a = b
def mapR (π : Int → Int) (x : Row) : Row := (π x.1, x.2)
def mapS (π : Int → Int) (s : Sta) : Sta := (s.1.map (mapR π), s.2)
def mapA (π : Int → Int) (q : Ans) : Ans := (q.1, q.2.map π)
section
variable {π : Int → Int}
theorem Inj.mem (hπ : Inj π) {x : Int} {l : List Int} : π x ∈ l.map π ↔ x ∈ l := by
  rw [List.mem_map]
  constructor
  · rintro ⟨y, hy, e⟩
    rw [← hπ _ _ e]
    exact hy
  · exact fun h => ⟨x, h, rfl⟩
theorem mapS_pages (s : Sta) : pagesS (mapS π s) = (pagesS s).map π := by
  unfold pagesS mapS
  rw [List.map_map, List.map_map]
  rfl
theorem hit_map (hπ : Inj π) (r : Str) (s : Sta) (p : Int) : hitF r (mapS π s) (π p) = mapS π (hitF r s p) := by
  have hd : ∀ x : Row, (mapR π x).1 = π p ↔ x.1 = p := fun x => ⟨fun h => hπ _ _ h, fun h => by show π x.1 = π p; rw [h]⟩
  unfold hitF
  by_cases h1 : r = "used" ∨ r = "last"
  · rw [if_pos h1, if_pos h1]
    unfold mapS
    simp only
    rw [List.map_append, List.filter_map]
    congr 3
    refine List.filter_congr fun x _ => ?_
    simp only [Function.comp_apply]
    by_cases e : x.1 = p
    · have := (hd x).mpr e; simp [e, this]
    · have : ¬ (mapR π x).1 = π p := fun h => e ((hd x).mp h)
      simp [e, this]
  · rw [if_neg h1, if_neg h1]
    by_cases h2 : r = "often"
    · rw [if_pos h2, if_pos h2]
      unfold mapS
      simp only [List.map_map]
      congr 1
      refine List.map_congr_left fun x _ => ?_
      simp only [Function.comp_apply]
      by_cases e : x.1 = p
      · have := (hd x).mpr e
        rw [if_pos this, if_pos e]
        rfl
      · have : ¬ (mapR π x).1 = π p := fun h => e ((hd x).mp h)
        rw [if_neg this, if_neg e]
        rfl
    · rw [if_neg h2, if_neg h2]
      by_cases h3 : r = "clock"
      · rw [if_pos h3, if_pos h3]
        unfold mapS
        simp only [List.map_map]
        congr 1
        refine List.map_congr_left fun x _ => ?_
        simp only [Function.comp_apply]
        by_cases e : x.1 = p
        · have := (hd x).mpr e
          rw [if_pos this, if_pos e]
          rfl
        · have : ¬ (mapR π x).1 = π p := fun h => e ((hd x).mp h)
          rw [if_neg this, if_neg e]
      · rw [if_neg h3, if_neg h3]
theorem clock_map : ∀ n rows h, clockRun [] n (rows.map (mapR π)) h = mapS π (clockRun [] n rows h)
  | 0, rows, h => rfl
  | n + 1, rows, h => by
    unfold clockRun
    rw [List.getElem?_map]
    cases e : rows[h]? with
    | none => rfl
    | some x =>
      obtain ⟨a, b⟩ := x
      simp only [Option.map_some, mapR]
      by_cases hb : b = 1
      · have c1 : b = 1 ∨ π a ∈ ([] : List Int) := .inl hb
        have c2 : b = 1 ∨ a ∈ ([] : List Int) := .inl hb
        have c3 : π a ∉ ([] : List Int) := by simp
        have c4 : a ∉ ([] : List Int) := by simp
        rw [if_pos c1, if_pos c2, if_neg c3, if_neg c4, List.length_map]
        have e2 : (rows.map (mapR π)).set h (π a, 0) = (rows.set h (a, 0)).map (mapR π) := by rw [List.map_set]; rfl
        rw [e2]
        exact clock_map n _ _
      · have c1 : ¬ (b = 1 ∨ π a ∈ ([] : List Int)) := by simp [hb]
        have c2 : ¬ (b = 1 ∨ a ∈ ([] : List Int)) := by simp [hb]
        rw [if_neg c1, if_neg c2]
        rfl
theorem rwA_map {rows : List Row} {i : Nat} (h : i < rows.length) : rwA (rows.map (mapR π)) i = mapR π (rwA rows i) := by
  unfold rwA
  rw [List.getElem?_map, List.getElem?_eq_getElem h]
  rfl
theorem loser_map {r : Str} (hr : r ≠ "high") (s : Sta) : loserF r (mapS π s) [] = (loserF r s []).map fun q => (q.1, mapS π q.2) := by
  have hl : (mapS π s).1.length = s.1.length := by simp [mapS]
  unfold loserF
  rw [someF_nil, someF_nil, hl]
  cases e : s.1.length with
  | zero => rfl
  | succ n =>
    rw [List.range_succ_eq_map]
    simp only
    by_cases h1 : r = "came" ∨ r = "used"
    · rw [if_pos h1, if_pos h1]; rfl
    · rw [if_neg h1, if_neg h1]
      by_cases h2 : r = "last"
      · rw [if_pos h2, if_pos h2]; rfl
      · rw [if_neg h2, if_neg h2]
        by_cases h3 : r = "often"
        · rw [if_pos h3, if_pos h3]
          have m0 : (rwA (mapS π s).1 0).2 = (rwA s.1 0).2 := by
            show (rwA (s.1.map (mapR π)) 0).2 = _
            rw [rwA_map (by omega)]; rfl
          have ml : ((List.range n).map Nat.succ).map (fun (j : Nat) => ((rwA (mapS π s).1 j).2, (j : Int))) = ((List.range n).map Nat.succ).map (fun (j : Nat) => ((rwA s.1 j).2, (j : Int))) := by
            refine List.map_congr_left fun j hj => ?_
            obtain ⟨k, hk, rfl⟩ := List.mem_map.mp hj
            have : k < n := by simpa using hk
            show ((rwA (s.1.map (mapR π)) _).2, _) = _
            rw [rwA_map (by omega)]; rfl
          rw [m0, ml]
          rfl
        · rw [if_neg h3, if_neg h3, if_neg hr, if_neg hr]
          have hlm : (mapS π s).1 = s.1.map (mapR π) := rfl
          have hh : (mapS π s).2 = s.2 := rfl
          rw [hlm, hh, clock_map]
          rfl
theorem out_map (rows : List Row) (i : Nat) : outF (rows.map (mapR π)) i = (outF rows i).map (mapR π) := by
  unfold outF
  rw [List.map_append, List.map_take, List.map_drop]
theorem miss_map {r : Str} (hr : r ∈ ruleIx) (hr2 : r ≠ "high") (size : Int) (s : Sta) (p : Int) (hh : Hand r s) : missF r size (mapS π s) (π p) [] = (missF r size s p []).map fun q => (mapS π q.1, q.2.map π) := by
  have hl : (mapS π s).1.length = s.1.length := by simp [mapS]
  unfold missF
  rw [hl]
  by_cases hf : (s.1.length : Int) < size
  · rw [if_pos hf, if_pos hf]
    show some _ = some _
    simp [mapS, mapR]
  · rw [if_neg hf, if_neg hf, loser_map hr2]
    cases e : loserF r s [] with
    | none => rfl
    | some q =>
      obtain ⟨i, rows, h⟩ := q
      have hi : i < rows.length := (loserF_lt hr hh e).1
      simp only [Option.map_some, mapS, rwA_map hi]
      by_cases hc : r = "clock"
      · rw [if_pos hc, if_pos hc]
        simp [mapR, List.map_take, List.map_drop]
      · rw [if_neg hc, if_neg hc, out_map]
        simp [mapR]
theorem step_map (hπ : Inj π) {r : Str} (hr : r ∈ ruleIx) (hr2 : r ≠ "high") (size : Int) (s : Sta) (p : Int) (hh : Hand r s) : stepF r size (mapS π s) (π p) = (mapS π (stepF r size s p).1, mapA π (stepF r size s p).2) := by
  unfold stepF
  rw [mapS_pages]
  by_cases h : p ∈ pagesS s
  · rw [if_pos h, if_pos (hπ.mem.mpr h), hit_map hπ]
    rfl
  · rw [if_neg h, if_neg (fun h2 => h (hπ.mem.mp h2)), miss_map hr hr2 size s p hh]
    cases missF r size s p [] with
    | none => rfl
    | some q => rfl
theorem run_map (hπ : Inj π) {r : Str} (hr : r ∈ ruleIx) (hr2 : r ≠ "high") {size : Int} (hs : 1 ≤ size ∧ size ≤ 6) : ∀ (ps : List Int) {s : Sta}, SOk r size s → runG r size (mapS π s) (ps.map π) = ((runG r size s ps).1.map (mapA π), mapS π (runG r size s ps).2)
  | [], s, _ => rfl
  | p :: ps, s, w => by
    have t := step_ok (p := p) hr hs w
    rw [List.map_cons]
    unfold runG
    rw [step_map hπ hr hr2 size s p w.handOk]
    simp only
    rw [run_map hπ hr hr2 hs ps t.ok]
    rfl
theorem missesL_map (rows : List Ans) : missesL (rows.map (mapA π)) = missesL rows := by
  unfold missesL
  rw [List.filter_map, List.length_map]
  rfl
end
end Cb

set_option Elab.async false
set_option linter.all false
set_option maxRecDepth 100000
set_option maxHeartbeats 4000000
/-! Pages by other names: the best. -/
namespace Cb
open PySem PySem.Spec PyProof.Rows L2 Dl
section
variable {π : Int → Int}
/-- each entry has one by other names that costs no more -/
def Sim (π : Int → Int) (w w' : Wk) : Prop := ∀ q ∈ w, ∃ q' ∈ w', q'.1.Perm (q.1.map π) ∧ q'.2 ≤ q.2
theorem filter_map_ne (hπ : Inj π) (l : List Int) (g : Int) : (l.map π).filter (fun x => decide (x ≠ π g)) = (l.filter fun x => decide (x ≠ g)).map π := by
  rw [List.filter_map]
  congr 1
  refine List.filter_congr fun x _ => ?_
  simp only [Function.comp_apply]
  by_cases e : x = g
  · simp [e]
  · have : ¬ π x = π g := fun h => e (hπ _ _ h)
    simp [e, this]
theorem moves_map (hπ : Inj π) {size : Int} {l l' m : List Int} {p : Int} (h : l'.Perm (l.map π)) (hm : m ∈ movesF size l p) : ∃ m' ∈ movesF size l' (π p), m'.Perm (m.map π) := by
  have hl : l'.length = l.length := by rw [h.length_eq, List.length_map]
  unfold movesF at hm ⊢
  rw [hl]
  by_cases hf : (l.length : Int) < size
  · rw [if_pos hf] at hm ⊢
    have e : m = sortI (l ++ [p]) := by simpa using hm
    refine ⟨_, List.mem_singleton.mpr rfl, ?_⟩
    subst e
    refine (sortI_perm _).trans ?_
    refine List.Perm.trans ?_ ((sortI_perm (l ++ [p])).map π).symm
    rw [List.map_append]
    exact h.append_right _
  · rw [if_neg hf] at hm ⊢
    obtain ⟨g, hg, rfl⟩ := List.mem_map.mp hm
    have hg' : π g ∈ l' := h.mem_iff.mpr (hπ.mem.mpr hg)
    refine ⟨_, List.mem_map.mpr ⟨π g, hg', rfl⟩, ?_⟩
    refine (sortI_perm _).trans ?_
    refine List.Perm.trans ?_ ((sortI_perm _).map π).symm
    rw [List.map_append, ← filter_map_ne hπ]
    exact (h.filter _).append_right _
theorem sim_step (hπ : Inj π) {size p c : Int} {w w' : Wk} (h : Sim π w w') : Sim π (behindF size w p c) (behindF size w' (π p) c) := by
  intro q2 hq2
  obtain ⟨q, hq, hl⟩ := least_behind.from_ q2 hq2
  obtain ⟨q', hq', hp, hc⟩ := h q hq
  rcases hl with ⟨h1, rfl⟩ | ⟨h1, h2, h3⟩
  · obtain ⟨c', h4, h5⟩ := (least_behind (size := size) (page := π p) (cost := c) (w := w')).le q' ⟨q', hq', .inl ⟨hp.mem_iff.mpr (hπ.mem.mpr h1), rfl⟩⟩
    exact ⟨_, h4, hp, by simp only; omega⟩
  · obtain ⟨m', hm', hmp⟩ := moves_map hπ hp h2
    obtain ⟨c', h4, h5⟩ := (least_behind (size := size) (page := π p) (cost := c) (w := w')).le (m', q'.2 + c) ⟨q', hq', .inr ⟨fun hx => h1 (hπ.mem.mp (hp.mem_iff.mp hx)), hm', rfl⟩⟩
    exact ⟨_, h4, hmp, by simp only at h5 ⊢; omega⟩
theorem sim_run (hπ : Inj π) {size : Int} {cs cs' : Costs} : ∀ (ps : List Int) {w w' : Wk}, (∀ p ∈ ps, costF cs' (π p) = costF cs p) → Sim π w w' →
    Sim π (ps.foldl (fun w p => behindF size w p (costF cs p)) w) ((ps.map π).foldl (fun w p => behindF size w p (costF cs' p)) w')
  | [], _, _, _, h => h
  | p :: ps, w, w', hc, h => by
    rw [List.map_cons, List.foldl_cons, List.foldl_cons, hc p (by simp)]
    exact sim_run hπ ps (fun x hx => hc x (by simp [hx])) (sim_step hπ h)
theorem sim_works (hπ : Inj π) {size : Int} {cs cs' : Costs} {ps : List Int} (hc : ∀ p ∈ ps, costF cs' (π p) = costF cs p) : Sim π (worksF size cs ps) (worksF size cs' (ps.map π)) :=
  sim_run hπ ps hc fun q hq => by
    have : q = ([], 0) := by simpa using hq
    subst this
    exact ⟨_, List.mem_singleton.mpr rfl, by simp, Int.le_refl _⟩
/-- the best costs as much by other names -/
theorem best_map {σ : Int → Int} (h1 : ∀ x, σ (π x) = x) (h2 : ∀ x, π (σ x) = x) {size : Int} {cs cs' : Costs} {ps : List Int} (hc : ∀ p ∈ ps, costF cs' (π p) = costF cs p) {a b : List Int × Int}
    (ha : a ∈ worksF size cs ps) (ma : ∀ q ∈ worksF size cs ps, a.2 ≤ q.2) (hb : b ∈ worksF size cs' (ps.map π)) (mb : ∀ q ∈ worksF size cs' (ps.map π), b.2 ≤ q.2) : a.2 = b.2 := by
  have hπ : Inj π := fun x y e => by rw [← h1 x, ← h1 y, e]
  have hσ : Inj σ := fun x y e => by rw [← h2 x, ← h2 y, e]
  have e : (ps.map π).map σ = ps := by
    rw [List.map_map]
    have : σ ∘ π = id := funext h1
    rw [this, List.map_id]
  obtain ⟨q, hq, _, hle⟩ := sim_works hπ (size := size) hc a ha
  have s2 := sim_works hσ (size := size) (cs := cs') (cs' := cs) (ps := ps.map π) fun p hp => by
    obtain ⟨x, hx, rfl⟩ := List.mem_map.mp hp
    rw [h1, hc x hx]
  rw [e] at s2
  obtain ⟨q2, hq2, _, hle2⟩ := s2 b hb
  have := mb q hq
  have := ma q2 hq2
  omega
end
end Cb

set_option Elab.async false
set_option linter.all false
set_option maxRecDepth 100000
set_option maxHeartbeats 4000000
/-! That goes which comes again last: as few misses as the best. -/
namespace Cb
open PySem PySem.Spec PyProof.Rows L2 Dl
/-- what may be held behind a miss -/
def Mv (k : Nat) (S : List Int) (p : Int) (S' : List Int) : Prop := (S.length < k ∧ S'.Perm (p :: S)) ∨ (¬ S.length < k ∧ ∃ g ∈ S, S'.Perm (p :: S.erase g))
/-- a stream may be served with so many misses -/
inductive Go (k : Nat) : List Int → List Int → Nat → Prop
  | nil (S : List Int) : Go k S [] 0
  | hit {S ps : List Int} {p : Int} {n : Nat} (h : p ∈ S) (r : Go k S ps n) : Go k S (p :: ps) n
  | miss {S S' ps : List Int} {p : Int} {n : Nat} (h : p ∉ S) (m : Mv k S p S') (r : Go k S' ps n) : Go k S (p :: ps) (n + 1)
theorem Mv.perm {k : Nat} {S T S' : List Int} {p : Int} (e : S.Perm T) (m : Mv k S p S') : Mv k T p S' := by
  rcases m with ⟨h1, h2⟩ | ⟨h1, g, hg, h2⟩
  · exact .inl ⟨by rw [← e.length_eq]; exact h1, h2.trans (e.cons p)⟩
  · exact .inr ⟨by rw [← e.length_eq]; exact h1, g, e.mem_iff.mp hg, h2.trans ((e.erase g).cons p)⟩
theorem Go.perm {k n : Nat} {S T ps : List Int} (e : S.Perm T) (h : Go k S ps n) : Go k T ps n := by
  induction h generalizing T with
  | nil => exact .nil T
  | hit h r ih => exact .hit (e.mem_iff.mp h) (ih e)
  | miss h m r ih => exact .miss (fun x => h (e.mem_iff.mpr x)) (m.perm e) r
/-- a full cache that lets another page go: what is left of it -/
theorem full_cases {k : Nat} {b q : Int} {X T' : List Int} (hk : X.length + 1 = k) (hb : b ∉ X) (m : Mv k (b :: X) q T') : T'.Perm (q :: X) ∨ ∃ z ∈ X, T'.Perm (b :: q :: X.erase z) := by
  rcases m with ⟨h, _⟩ | ⟨_, g, hg, h⟩
  · simp at h; omega
  · by_cases e : g = b
    · subst e
      rw [List.erase_cons_head] at h
      exact .inl h
    · have hz : g ∈ X := (List.mem_cons.mp hg).resolve_left e
      rw [List.erase_cons_tail (by simpa using Ne.symm e)] at h
      exact .inr ⟨g, hz, h.trans (List.Perm.swap _ _ _)⟩
theorem full_evict {k : Nat} {a q z : Int} {X : List Int} (hk : X.length + 1 = k) (ha : a ∉ X) (hz : z ∈ X) : Mv k (a :: X) q (a :: q :: X.erase z) :=
  .inr ⟨by simp; omega, z, List.mem_cons_of_mem _ hz, by
    have : a ≠ z := fun e => ha (e ▸ hz)
    rw [List.erase_cons_tail (by simpa using this)]
    exact List.Perm.swap _ _ _⟩
theorem full_drop {k : Nat} {a q : Int} {X : List Int} (hk : X.length + 1 = k) : Mv k (a :: X) q (q :: X) :=
  .inr ⟨by simp; omega, a, by simp, by rw [List.erase_cons_head]⟩
theorem len_ex {X : List Int} {q z : Int} {k : Nat} (hk : X.length + 1 = k) (hz : z ∈ X) : (q :: X.erase z).length + 1 = k := by
  have := List.length_pos_of_mem hz
  rw [List.length_cons, List.length_erase_of_mem hz]
  omega
theorem nd_ex {X : List Int} {q z : Int} (nX : X.Nodup) (hq : q ∉ X) : (q :: X.erase z).Nodup := List.nodup_cons.mpr ⟨fun h => hq (List.mem_of_mem_erase h), nX.erase z⟩
theorem nin_ex {X : List Int} {a q z : Int} (ha : a ∉ X) (hq : a ≠ q) : a ∉ q :: X.erase z := fun h => by
  rcases List.mem_cons.mp h with h | h
  · exact hq h
  · exact ha (List.mem_of_mem_erase h)
/-- one page other costs one miss more at most -/
theorem go_plus {k : Nat} {b : Int} : ∀ (ps : List Int) {a : Int} {X : List Int} {n : Nat}, X.length + 1 = k → X.Nodup → a ∉ X → b ∉ X → a ≠ b → Go k (b :: X) ps n → ∃ m, m ≤ n + 1 ∧ Go k (a :: X) ps m
  | [], a, X, n, _, _, _, _, _, _ => ⟨0, by omega, .nil _⟩
  | q :: ps, a, X, n, hk, nX, ha, hb, hab, h => by
    by_cases hqX : q ∈ X
    · cases h with
      | hit h r =>
        obtain ⟨m, hm, g⟩ := go_plus ps hk nX ha hb hab r
        exact ⟨m, hm, .hit (List.mem_cons_of_mem _ hqX) g⟩
      | miss h m r => exact absurd (List.mem_cons_of_mem _ hqX) h
    · by_cases hqb : q = b
      · subst hqb
        exact ⟨n + 1, Nat.le_refl _, .miss (fun h => by rcases List.mem_cons.mp h with h | h; exact hab h.symm; exact hqX h) (full_drop hk) (by
          cases h with
          | hit h r => exact r
          | miss h m r => exact absurd List.mem_cons_self h)⟩
      · have hqT : q ∉ b :: X := fun h => by rcases List.mem_cons.mp h with h | h; exact hqb h; exact hqX h
        cases h with
        | hit h r => exact absurd h hqT
        | @miss _ T' _ _ n h mv r =>
          by_cases hqa : q = a
          · subst hqa
            rcases full_cases hk hb mv with e | ⟨z, hz, e⟩
            · exact ⟨n, by omega, .hit List.mem_cons_self (r.perm e)⟩
            · have hzq : z ≠ q := fun e => hqX (e ▸ hz)
              have hzb : z ≠ b := fun e => hb (e ▸ hz)
              obtain ⟨m, hm, g⟩ := go_plus ps (a := z) (X := q :: X.erase z) (len_ex hk hz) (nd_ex nX hqX) (fun h => by
                rcases List.mem_cons.mp h with h | h
                · exact hzq h
                · exact (nX.mem_erase_iff.mp h).1 rfl) (nin_ex hb (Ne.symm hqb)) hzb (r.perm e)
              refine ⟨m, by omega, .hit List.mem_cons_self (g.perm ?_)⟩
              exact (List.Perm.swap _ _ _).trans ((List.perm_cons_erase hz).symm.cons q)
          · have hqS : q ∉ a :: X := fun h => by rcases List.mem_cons.mp h with h | h; exact hqa h; exact hqX h
            rcases full_cases hk hb mv with e | ⟨z, hz, e⟩
            · exact ⟨n + 1, by omega, .miss hqS (full_drop hk) (r.perm e)⟩
            · obtain ⟨m, hm, g⟩ := go_plus ps (a := a) (X := q :: X.erase z) (len_ex hk hz) (nd_ex nX hqX) (nin_ex ha (Ne.symm hqa)) (nin_ex hb (Ne.symm hqb)) hab (r.perm e)
              exact ⟨m + 1, by omega, .miss hqS (full_evict hk ha hz) g⟩
def idx (a : Int) (ps : List Int) : Nat := ps.findIdx fun x => decide (x = a)
theorem idx_cons {a q : Int} {ps : List Int} (h : q ≠ a) : idx a (q :: ps) = idx a ps + 1 := by
  unfold idx
  rw [List.findIdx_cons]
  simp [h]
theorem idx_head (a : Int) (ps : List Int) : idx a (a :: ps) = 0 := by
  unfold idx
  rw [List.findIdx_cons]
  simp
/-- a page that comes again sooner is no worse -/
theorem go_dom {k : Nat} {a b : Int} : ∀ (ps : List Int) {X : List Int} {n : Nat}, X.length + 1 = k → X.Nodup → a ∉ X → b ∉ X → a ≠ b → idx a ps ≤ idx b ps → Go k (b :: X) ps n → ∃ m, m ≤ n ∧ Go k (a :: X) ps m
  | [], X, n, _, _, _, _, _, _, _ => ⟨0, by omega, .nil _⟩
  | q :: ps, X, n, hk, nX, ha, hb, hab, hi, h => by
    by_cases hqX : q ∈ X
    · have qa : q ≠ a := fun e => ha (e ▸ hqX)
      have qb : q ≠ b := fun e => hb (e ▸ hqX)
      rw [idx_cons qa, idx_cons qb] at hi
      cases h with
      | hit h r =>
        obtain ⟨m, hm, g⟩ := go_dom ps hk nX ha hb hab (by omega) r
        exact ⟨m, hm, .hit (List.mem_cons_of_mem _ hqX) g⟩
      | miss h m r => exact absurd (List.mem_cons_of_mem _ hqX) h
    · by_cases hqb : q = b
      · subst hqb
        rw [idx_head, idx_cons (Ne.symm hab)] at hi
        omega
      · have hqT : q ∉ b :: X := fun h => by rcases List.mem_cons.mp h with h | h; exact hqb h; exact hqX h
        cases h with
        | hit h r => exact absurd h hqT
        | @miss _ T' _ _ n h mv r =>
          by_cases hqa : q = a
          · subst hqa
            rcases full_cases hk hb mv with e | ⟨z, hz, e⟩
            · exact ⟨n, by omega, .hit List.mem_cons_self (r.perm e)⟩
            · have hzq : z ≠ q := fun e => hqX (e ▸ hz)
              have hzb : z ≠ b := fun e => hb (e ▸ hz)
              obtain ⟨m, hm, g⟩ := go_plus ps (a := z) (X := q :: X.erase z) (len_ex hk hz) (nd_ex nX hqX) (fun h => by
                rcases List.mem_cons.mp h with h | h
                · exact hzq h
                · exact (nX.mem_erase_iff.mp h).1 rfl) (nin_ex hb (Ne.symm hqb)) hzb (r.perm e)
              refine ⟨m, by omega, .hit List.mem_cons_self (g.perm ?_)⟩
              exact (List.Perm.swap _ _ _).trans ((List.perm_cons_erase hz).symm.cons q)
          · have hqS : q ∉ a :: X := fun h => by rcases List.mem_cons.mp h with h | h; exact hqa h; exact hqX h
            rw [idx_cons hqa, idx_cons hqb] at hi
            rcases full_cases hk hb mv with e | ⟨z, hz, e⟩
            · exact ⟨n + 1, by omega, .miss hqS (full_drop hk) (r.perm e)⟩
            · obtain ⟨m, hm, g⟩ := go_dom ps (X := q :: X.erase z) (len_ex hk hz) (nd_ex nX hqX) (nin_ex ha (Ne.symm hqa)) (nin_ex hb (Ne.symm hqb)) hab (by omega) (r.perm e)
              exact ⟨m + 1, by omega, .miss hqS (full_evict hk ha hz) g⟩
/-! ### farthest -/
theorem foldl_minP : ∀ (xs : List (Int × Int)) (x : Int × Int), (xs.foldl (fun a y => if ltP y a then y else a) x).1 ≤ x.1 ∧ ∀ y ∈ xs, (xs.foldl (fun a y => if ltP y a then y else a) x).1 ≤ y.1
  | [], x => ⟨by simp, by simp⟩
  | z :: xs, x => by
    obtain ⟨h1, h2⟩ := foldl_minP xs (if ltP z x then z else x)
    have h3 : (if ltP z x then z else x).1 ≤ x.1 ∧ (if ltP z x then z else x).1 ≤ z.1 := by
      by_cases h : ltP z x = true
      · rw [if_pos h]
        unfold ltP at h
        simp at h
        omega
      · rw [if_neg h]
        unfold ltP at h
        simp at h
        omega
    rw [List.foldl_cons]
    refine ⟨by omega, fun y hy => ?_⟩
    rcases List.mem_cons.mp hy with rfl | hy
    · omega
    · exact h2 y hy
theorem gone_far {ps : List Int} {n : Nat} {held : List Int} {z : Int} (hz : z ∈ held) : idx z (ps.drop (n + 1)) ≤ idx (goneF ps n held) (ps.drop (n + 1)) := by
  cases held with
  | nil => cases hz
  | cons x t =>
    obtain ⟨h1, h2⟩ := foldl_minP (t.map fun x => (0 - (nextF ps n x : Int), x)) (0 - (nextF ps n x : Int), x)
    have hin := minP_in (0 - (nextF ps n x : Int), x) (t.map fun x => (0 - (nextF ps n x : Int), x))
    have hg : (minP (0 - (nextF ps n x : Int), x) (t.map fun x => (0 - (nextF ps n x : Int), x))).1 = 0 - (nextF ps n (goneF ps n (x :: t)) : Int) := by
      show (minP (0 - (nextF ps n x : Int), x) (t.map fun x => (0 - (nextF ps n x : Int), x))).1 = 0 - (nextF ps n (minP (0 - (nextF ps n x : Int), x) (t.map fun x => (0 - (nextF ps n x : Int), x))).2 : Int)
      rcases List.mem_cons.mp hin with h | h
      · rw [h]
      · obtain ⟨y, _, e⟩ := List.mem_map.mp h
        rw [← e]
    have hle : (minP (0 - (nextF ps n x : Int), x) (t.map fun x => (0 - (nextF ps n x : Int), x))).1 ≤ 0 - (nextF ps n z : Int) := by
      rcases List.mem_cons.mp hz with rfl | hz
      · exact h1
      · exact h2 _ (List.mem_map.mpr ⟨z, hz, rfl⟩)
    rw [hg] at hle
    have e : ∀ y, nextF ps n y = n + 1 + idx y (ps.drop (n + 1)) := fun y => rfl
    rw [e, e] at hle
    omega
structure FarOk (k : Nat) (s : Far) : Prop where
  nd : s.1.Nodup
  len : s.1.length ≤ k
theorem far_ok {k : Nat} {ps : List Int} {n : Nat} {p : Int} {s : Far} (hk : 1 ≤ k) (h : FarOk k s) : FarOk k (farS (k : Nat) ps n p s) := by
  unfold farS
  by_cases hp : p ∈ s.1
  · rw [if_pos hp]; exact ⟨h.nd, h.len⟩
  · rw [if_neg hp]
    have nda : ∀ l : List Int, l.Nodup → p ∉ l → (l ++ [p]).Nodup := fun l hl hpl => by
      rw [List.nodup_append]
      refine ⟨hl, by simp, fun x hx y hy => ?_⟩
      have : y = p := by simpa using hy
      subst this
      rintro rfl
      exact hpl hx
    by_cases hl : (s.1.length : Int) = (k : Nat)
    · rw [if_pos hl]
      have hne : s.1 ≠ [] := by intro e; rw [e] at hl; simp at hl; omega
      have hg := gone_in (ps := ps) (n := n) hne
      have := List.length_pos_of_mem hg
      refine ⟨nda _ (h.nd.erase _) fun hx => hp (List.mem_of_mem_erase hx), ?_⟩
      simp only [List.length_append, List.length_erase_of_mem hg, List.length_singleton]
      have := h.len
      omega
    · rw [if_neg hl]
      refine ⟨nda _ h.nd hp, ?_⟩
      have := h.len
      simp
      omega
theorem farN_ok {k : Nat} {ps : List Int} (hk : 1 ≤ k) : ∀ n, FarOk k (farN (k : Nat) ps n)
  | 0 => ⟨by simp [farN_0], by simp [farN_0]⟩
  | n + 1 => by
    have ih := farN_ok (ps := ps) hk n
    rw [farN_s]
    split
    · exact ih
    · exact far_ok hk ih
/-- how many are missed from an ask on -/
theorem far_go {k : Nat} {ps : List Int} (hk : 1 ≤ k) : ∀ (j i : Nat), i + j = ps.length → ∃ n, (farN (k : Nat) ps ps.length).2.2 = (farN (k : Nat) ps i).2.2 + n ∧ Go k (farN (k : Nat) ps i).1 (ps.drop i) n ∧ ∀ m, Go k (farN (k : Nat) ps i).1 (ps.drop i) m → n ≤ m
  | 0, i, h => by
    have : i = ps.length := by omega
    subst this
    exact ⟨0, by omega, by rw [List.drop_length]; exact .nil _, fun m _ => Nat.zero_le m⟩
  | j + 1, i, h => by
    have hi : i < ps.length := by omega
    have hp : ps[i]? = some ps[i] := List.getElem?_eq_getElem hi
    have ed : ps.drop i = ps[i] :: ps.drop (i + 1) := List.drop_eq_getElem_cons hi
    have ok := farN_ok (ps := ps) hk i
    have eS := farN_succ (size := (k : Nat)) hp
    obtain ⟨n, h1, h2, h3⟩ := far_go (ps := ps) hk j (i + 1) (by omega)
    rw [eS] at h1 h2 h3
    rw [ed]
    have hgf : ∀ z ∈ (farN (k : Nat) ps i).1, idx z (ps.drop (i + 1)) ≤ idx (goneF ps i (farN (k : Nat) ps i).1) (ps.drop (i + 1)) := fun z hz => gone_far hz
    generalize ps[i] = p at *
    generalize farN (k : Nat) ps i = s at *
    generalize farN (k : Nat) ps ps.length = e at *
    generalize ps.drop (i + 1) = rest at *
    unfold farS at h1 h2 h3
    by_cases hps : p ∈ s.1
    · rw [if_pos hps] at h1 h2 h3
      refine ⟨n, h1, .hit hps h2, fun m hm => ?_⟩
      cases hm with
      | hit h r => exact h3 m r
      | miss h mv r => exact absurd hps h
    · rw [if_neg hps] at h1 h2 h3
      by_cases hl : (s.1.length : Int) = (k : Nat)
      · rw [if_pos hl] at h1 h2 h3
        have hne : s.1 ≠ [] := by intro e; rw [e] at hl; simp at hl; omega
        have hg := gone_in (ps := ps) (n := i) hne
        generalize goneF ps i s.1 = g at *
        simp only at h1 h2 h3
        have nf : ¬ s.1.length < k := by omega
        refine ⟨n + 1, by omega, .miss hps (.inr ⟨nf, g, hg, List.perm_append_comm⟩) h2, fun m hm => ?_⟩
        cases hm with
        | hit h r => exact absurd h hps
        | @miss _ S' _ _ m h mv r =>
          rcases mv with ⟨h4, _⟩ | ⟨_, z, hz, hS⟩
          · exact absurd h4 nf
          · by_cases ezg : z = g
            · subst ezg
              have := h3 m (r.perm (hS.trans (List.perm_append_singleton _ _).symm))
              omega
            · -- the page that goes there comes again sooner
              have hzg : z ∈ s.1.erase g := ok.nd.mem_erase_iff.mpr ⟨ezg, hz⟩
              have hgz : g ∈ s.1.erase z := ok.nd.mem_erase_iff.mpr ⟨Ne.symm ezg, hg⟩
              have eX : (s.1.erase g).erase z = (s.1.erase z).erase g := List.erase_comm _ _
              have p1 : (s.1.erase g ++ [p]).Perm (z :: p :: (s.1.erase g).erase z) :=
                (List.perm_append_comm.trans ((List.perm_cons_erase hzg).cons p)).trans (List.Perm.swap _ _ _)
              have p2 : S'.Perm (g :: p :: (s.1.erase g).erase z) := by
                rw [eX]
                exact (hS.trans ((List.perm_cons_erase hgz).cons p)).trans (List.Perm.swap _ _ _)
              have hXn : ((s.1.erase g).erase z).Nodup := (ok.nd.erase g).erase z
              have hpX : p ∉ (s.1.erase g).erase z := fun h => hps (List.mem_of_mem_erase (List.mem_of_mem_erase h))
              have hzp : z ≠ p := fun e => hps (e ▸ hz)
              have hgp : g ≠ p := fun e => hps (e ▸ hg)
              have hlen : (p :: (s.1.erase g).erase z).length + 1 = k := by
                have a1 := List.length_pos_of_mem hzg
                have a2 := List.length_pos_of_mem hg
                rw [List.length_cons, List.length_erase_of_mem hzg, List.length_erase_of_mem hg]
                rw [List.length_erase_of_mem hg] at a1
                omega
              obtain ⟨m', hm', go⟩ := go_dom rest hlen (List.nodup_cons.mpr ⟨hpX, hXn⟩) (a := z) (b := g) (fun h => by
                rcases List.mem_cons.mp h with h | h
                · exact hzp h
                · exact ((ok.nd.erase g).mem_erase_iff.mp h).1 rfl) (fun h => by
                rcases List.mem_cons.mp h with h | h
                · exact hgp h
                · exact (ok.nd.mem_erase_iff.mp (List.mem_of_mem_erase h)).1 rfl) ezg (hgf z hz) (r.perm p2)
              have := h3 m' (go.perm p1.symm)
              omega
      · rw [if_neg hl] at h1 h2 h3
        have hlt : s.1.length < k := by have := ok.len; omega
        simp only at h1 h2 h3
        refine ⟨n + 1, by omega, .miss hps (.inl ⟨hlt, List.perm_append_comm⟩) h2, fun m hm => ?_⟩
        cases hm with
        | hit h r => exact absurd h hps
        | @miss _ S' _ _ m h mv r =>
          rcases mv with ⟨_, hS⟩ | ⟨h4, _⟩
          · have := h3 m (r.perm (hS.trans (List.perm_append_singleton _ _).symm))
            omega
          · exact absurd hlt h4
end Cb

set_option Elab.async false
set_option linter.all false
set_option maxRecDepth 100000
set_option maxHeartbeats 4000000
/-! Farthest costs what the best costs; rules cost no less. -/
namespace Cb
open PySem PySem.Spec PyProof.Rows L2 Dl
theorem moves_mv {k : Nat} {l m : List Int} {p : Int} (hn : l.Nodup) (h : m ∈ movesF (k : Nat) l p) : Mv k l p m := by
  unfold movesF at h
  by_cases hl : (l.length : Int) < (k : Nat)
  · rw [if_pos hl] at h
    have e : m = sortI (l ++ [p]) := by simpa using h
    subst e
    exact .inl ⟨by omega, (sortI_perm _).trans (List.perm_append_singleton _ _)⟩
  · rw [if_neg hl] at h
    obtain ⟨g, hg, rfl⟩ := List.mem_map.mp h
    refine .inr ⟨by omega, g, hg, ?_⟩
    rw [filter_ne hn]
    exact (sortI_perm _).trans (List.perm_append_singleton _ _)
theorem mv_moves {k : Nat} {l S S' : List Int} {p : Int} (hn : l.Nodup) (e : l.Perm S) (h : Mv k S p S') : ∃ m ∈ movesF (k : Nat) l p, m.Perm S' := by
  unfold movesF
  rcases h with ⟨h1, h2⟩ | ⟨h1, g, hg, h2⟩
  · rw [if_pos (by have := e.length_eq; omega)]
    exact ⟨_, List.mem_singleton.mpr rfl, ((sortI_perm _).trans (List.perm_append_singleton _ _)).trans ((e.cons p).trans h2.symm)⟩
  · rw [if_neg (by have := e.length_eq; omega)]
    refine ⟨_, List.mem_map.mpr ⟨g, e.mem_iff.mpr hg, rfl⟩, ?_⟩
    rw [filter_ne hn]
    exact ((sortI_perm _).trans (List.perm_append_singleton _ _)).trans (((e.erase g).cons p).trans h2.symm)
theorem works_goG {k : Nat} (hk : 1 ≤ k) : ∀ (ps : List Int) {w : Wk}, WkOk (k : Nat) w → (∀ p ∈ ps, 0 ≤ p ∧ p ≤ 9) → ∀ q ∈ ps.foldl (fun w p => behindF (k : Nat) w p (costF none p)) w, ∃ q0 ∈ w, ∃ n : Nat, Go k q0.1 ps n ∧ q.2 = q0.2 + n
  | [], w, _, _, q, hq => ⟨q, hq, 0, .nil _, by simp⟩
  | p :: ps, w, wk, h9, q, hq => by
    have wk' := behind_ok (cost := costF none p) (size := (k : Nat)) (by omega) (h9 p (by simp)) wk
    obtain ⟨q1, hq1, n, g, e⟩ := works_goG hk ps wk' (fun x hx => h9 x (by simp [hx])) q hq
    obtain ⟨q0, hq0, hl⟩ := least_behind.from_ q1 hq1
    rcases hl with ⟨h1, rfl⟩ | ⟨h1, h2, h3⟩
    · exact ⟨q1, hq0, n, .hit h1 g, e⟩
    · refine ⟨q0, hq0, n + 1, .miss h1 (moves_mv (wk.ok q0 hq0).rise.nodup h2) g, ?_⟩
      rw [e, h3]
      show q0.2 + 1 + _ = _
      omega
theorem go_worksG {k : Nat} (hk : 1 ≤ k) : ∀ (ps : List Int) {w : Wk} {S : List Int} {n : Nat} {q0 : List Int × Int}, WkOk (k : Nat) w → (∀ p ∈ ps, 0 ≤ p ∧ p ≤ 9) → q0 ∈ w → q0.1.Perm S → Go k S ps n → ∃ q ∈ ps.foldl (fun w p => behindF (k : Nat) w p (costF none p)) w, q.2 ≤ q0.2 + n
  | [], w, S, n, q0, _, _, h0, _, _ => ⟨q0, h0, by omega⟩
  | p :: ps, w, S, n, q0, wk, h9, h0, e, g => by
    have wk' := behind_ok (cost := costF none p) (size := (k : Nat)) (by omega) (h9 p (by simp)) wk
    have L := least_behind (size := (k : Nat)) (page := p) (cost := costF none p) (w := w)
    cases g with
    | hit h r =>
      obtain ⟨c, h1, h2⟩ := L.le q0 ⟨q0, h0, .inl ⟨e.mem_iff.mpr h, rfl⟩⟩
      obtain ⟨q, hq, hle⟩ := go_worksG hk ps wk' (fun x hx => h9 x (by simp [hx])) h1 e r
      exact ⟨q, hq, by simp only at hle; omega⟩
    | miss h mv r =>
      obtain ⟨m, hm, em⟩ := mv_moves (wk.ok q0 h0).rise.nodup e mv
      obtain ⟨c, h1, h2⟩ := L.le (m, q0.2 + costF none p) ⟨q0, h0, .inr ⟨fun x => h (e.mem_iff.mp x), hm, rfl⟩⟩
      obtain ⟨q, hq, hle⟩ := go_worksG hk ps wk' (fun x hx => h9 x (by simp [hx])) h1 em r
      have h2 : c ≤ q0.2 + 1 := h2
      exact ⟨q, hq, by simp only at hle; omega⟩
theorem wk0 {size : Int} (hs : 1 ≤ size) : WkOk size [([], 0)] := works_ok (cs := none) (ps := []) hs (by simp)
theorem works_go {k : Nat} (hk : 1 ≤ k) {ps : List Int} (h9 : ∀ p ∈ ps, 0 ≤ p ∧ p ≤ 9) {q : List Int × Int} (hq : q ∈ worksF (k : Nat) none ps) : ∃ n : Nat, Go k [] ps n ∧ q.2 = n := by
  obtain ⟨q0, h0, n, g, e⟩ := works_goG hk ps (wk0 (by omega)) h9 q hq
  have : q0 = ([], 0) := by simpa using h0
  subst this
  exact ⟨n, g, by simpa using e⟩
theorem go_works {k n : Nat} (hk : 1 ≤ k) {ps : List Int} (h9 : ∀ p ∈ ps, 0 ≤ p ∧ p ≤ 9) (g : Go k [] ps n) : ∃ q ∈ worksF (k : Nat) none ps, q.2 ≤ n := by
  obtain ⟨q, hq, h⟩ := go_worksG hk ps (wk0 (by omega)) h9 (List.mem_singleton.mpr rfl) (List.Perm.refl []) g
  exact ⟨q, hq, by simpa using h⟩
/-- how many farthest misses -/
def farM (size : Int) (ps : List Int) : Nat := (farN size ps ps.length).2.2
theorem far_best {k : Nat} (hk : 1 ≤ k) {ps : List Int} (h9 : ∀ p ∈ ps, 0 ≤ p ∧ p ≤ 9) {a : List Int × Int} (ha : a ∈ worksF (k : Nat) none ps) (ma : ∀ q ∈ worksF (k : Nat) none ps, a.2 ≤ q.2) : a.2 = (farM (k : Nat) ps : Nat) := by
  obtain ⟨n, h1, h2, h3⟩ := far_go (k := k) (ps := ps) hk ps.length 0 (by omega)
  rw [farN_0] at h2 h3
  have e : farM (k : Nat) ps = n := by unfold farM; rw [h1]; simp [farN_0]
  rw [e]
  have h2 : Go k [] ps n := h2
  have h3 : ∀ m, Go k [] ps m → n ≤ m := h3
  obtain ⟨m, g, em⟩ := works_go hk h9 ha
  obtain ⟨q, hq, hle⟩ := go_works hk h9 h2
  have := h3 m g
  have := ma q hq
  omega
theorem min_ex : ∀ {w : Wk}, w ≠ [] → ∃ a ∈ w, ∀ q ∈ w, a.2 ≤ q.2
  | [q], _ => ⟨q, by simp, fun x hx => by have : x = q := by simpa using hx
                                          rw [this]; exact Int.le_refl _⟩
  | q :: r :: w, _ => by
    obtain ⟨a, ha, h⟩ := min_ex (w := r :: w) (by simp)
    by_cases e : q.2 ≤ a.2
    · exact ⟨q, by simp, fun x hx => by
        rcases List.mem_cons.mp hx with rfl | hx
        · exact Int.le_refl _
        · have := h x hx; omega⟩
    · exact ⟨a, List.mem_cons_of_mem _ ha, fun x hx => by
        rcases List.mem_cons.mp hx with rfl | hx
        · omega
        · exact h x hx⟩
/-- by farthest as many are missed by other names -/
theorem far_map {π σ : Int → Int} (h1 : ∀ x, σ (π x) = x) (h2 : ∀ x, π (σ x) = x) {k : Nat} (hk : 1 ≤ k) {ps : List Int} (h9 : ∀ p ∈ ps, 0 ≤ p ∧ p ≤ 9) (h9' : ∀ p ∈ ps, 0 ≤ π p ∧ π p ≤ 9) : farM (k : Nat) (ps.map π) = farM (k : Nat) ps := by
  obtain ⟨a, ha, ma⟩ := min_ex (works_ne (size := (k : Nat)) (cs := none) (ps := ps) (by omega))
  obtain ⟨b, hb, mb⟩ := min_ex (works_ne (size := (k : Nat)) (cs := none) (ps := ps.map π) (by omega))
  have e1 := far_best hk h9 ha ma
  have e2 := far_best hk (ps := ps.map π) (fun p hp => by
    obtain ⟨x, hx, rfl⟩ := List.mem_map.mp hp
    exact h9' x hx) hb mb
  have := best_map h1 h2 (cs := none) (cs' := none) (fun _ _ => rfl) ha ma hb mb
  omega
/-- each rule's way is one -/
theorem rule_go {r : Str} {k : Nat} (hr : r ∈ ruleIx) (hk : 1 ≤ k) (h6 : k ≤ 6) : ∀ (ps : List Int) {s : Sta}, SOk r (k : Nat) s → Go k (pagesS s) ps (missesL (runG r (k : Nat) s ps).1)
  | [], s, _ => .nil _
  | p :: ps, s, w => by
    have t := step_ok (p := p) hr (size := (k : Nat)) (by omega) w
    have ih := rule_go hr hk h6 ps t.ok
    have pl : s.1.length = (pagesS s).length := by simp [pagesS]
    unfold runG
    rw [missesL_cons]
    by_cases h : p ∈ pagesS s
    · obtain ⟨e1, e2⟩ := t.hit h
      rw [e1, if_pos rfl, Nat.zero_add]
      exact .hit h (ih.perm e2)
    · by_cases hl : (s.1.length : Int) < (k : Nat)
      · obtain ⟨e1, e2⟩ := t.room h hl
        rw [e1, if_neg (by simp), Nat.add_comm]
        exact .miss h (.inl ⟨by omega, by rw [e2]; exact List.perm_append_singleton _ _⟩) ih
      · obtain ⟨g, hg, e1, e2, _⟩ := t.full h hl
        rw [e1, if_neg (by simp), Nat.add_comm]
        exact .miss h (.inr ⟨by omega, g, hg, e2⟩) ih
/-- no rule misses fewer than the best -/
theorem rule_best {r : Str} {k : Nat} (hr : r ∈ ruleIx) (hk : 1 ≤ k) (h6 : k ≤ 6) {ps : List Int} (h9 : ∀ p ∈ ps, 0 ≤ p ∧ p ≤ 9) {a : List Int × Int} (ma : ∀ q ∈ worksF (k : Nat) none ps, a.2 ≤ q.2) : a.2 ≤ (missN r (k : Nat) ps : Nat) := by
  obtain ⟨q, hq, hle⟩ := go_works hk h9 (rule_go hr hk h6 ps (s := sta0) (sok0 (by omega)))
  have := ma q hq
  unfold missN
  omega
end Cb

set_option Elab.async false
set_option linter.all false
set_option maxRecDepth 100000
set_option maxHeartbeats 4000000
/-! The best: how many differ, other sizes, other costs, a stream asked on; cruel streams. -/
namespace Cb
open PySem PySem.Spec PyProof.Rows L2 Dl
theorem mv_sub {k : Nat} {S S' : List Int} {p x : Int} (m : Mv k S p S') (h : x ∈ S') : x = p ∨ x ∈ S := by
  rcases m with ⟨_, e⟩ | ⟨_, g, _, e⟩
  · exact List.mem_cons.mp (e.mem_iff.mp h)
  · rcases List.mem_cons.mp (e.mem_iff.mp h) with h | h
    · exact .inl h
    · exact .inr (List.mem_of_mem_erase h)
/-- no way misses fewer than differ -/
theorem go_diff {k : Nat} {S ps : List Int} {n : Nat} (g : Go k S ps n) : ∀ ks : List Int, ks.Nodup → (∀ x ∈ ks, x ∈ ps ∧ x ∉ S) → ks.length ≤ n := by
  induction g with
  | nil S =>
    intro ks _ h
    cases ks with
    | nil => simp
    | cons x t => exact absurd (h x (by simp)).1 (by simp)
  | hit h r ih =>
    intro ks hn hk
    refine ih ks hn fun x hx => ⟨?_, (hk x hx).2⟩
    rcases List.mem_cons.mp (hk x hx).1 with e | e
    · subst e; exact absurd h (hk x hx).2
    · exact e
  | @miss S S' ps p n h m r ih =>
    intro ks hn hk
    have h1 := ih (ks.erase p) (hn.erase p) fun x hx => by
      obtain ⟨h2, h3⟩ := (List.Nodup.mem_erase_iff hn).mp hx
      obtain ⟨h4, h5⟩ := hk x h3
      refine ⟨(List.mem_cons.mp h4).resolve_left h2, fun h6 => ?_⟩
      rcases mv_sub m h6 with e | e
      · exact h2 e
      · exact h5 e
    rw [List.length_erase] at h1
    split at h1 <;> omega
theorem best_diff {k : Nat} (hk : 1 ≤ k) {ps : List Int} (h9 : ∀ p ∈ ps, 0 ≤ p ∧ p ≤ 9) {q : List Int × Int} (hq : q ∈ worksF (k : Nat) none ps) {c : Nat} (hc : Diff ps c) : (c : Int) ≤ q.2 := by
  obtain ⟨n, g, e⟩ := works_go hk h9 hq
  obtain ⟨ks, h1, h2, h3⟩ := hc
  have := go_diff g ks h1 fun x hx => ⟨(h2 x).mp hx, by simp⟩
  omega
theorem works_costS {size : Int} : ∀ {ps : List Int} {n : Nat} {w : Wk}, (∀ q ∈ w, 0 ≤ q.2 ∧ q.2 ≤ (n : Nat)) → ∀ q ∈ ps.foldl (fun w p => behindF size w p (costF none p)) w, 0 ≤ q.2 ∧ q.2 ≤ ((n + ps.length : Nat) : Int)
  | [], n, w, h => h
  | p :: ps, n, w, h => fun q hq => by
    have := works_costS (ps := ps) (n := n + 1) (w := behindF size w p (costF none p)) (fun q hq => by
      obtain ⟨r, hr, hl⟩ := least_behind.from_ q hq
      have := h r hr
      rcases hl with ⟨_, h2⟩ | ⟨_, _, h3⟩
      · rw [h2]; omega
      · rw [h3]
        show 0 ≤ r.2 + 1 ∧ r.2 + 1 ≤ _
        omega) q hq
    rw [List.length_cons]
    omega
theorem best_rngS {size : Int} {ps : List Int} {q : List Int × Int} (h : q ∈ worksF size none ps) : 0 ≤ q.2 ∧ q.2 ≤ (ps.length : Nat) := by
  have := works_costS (n := 0) (w := [([], 0)]) (by simp) q h
  simpa using this
/-- told from the most on: sorted and turned round it is the same -/
theorem sort_down {l : List Int} (h : l.Pairwise (fun a b => b ≤ a)) : (sortI l).reverse = l := by
  have e : sortI l = l.reverse := List.Perm.eq_of_pairwise (le := (· ≤ ·)) (fun a b _ _ h1 h2 => Int.le_antisymm h1 h2) (sortI_pw l) (List.pairwise_reverse.mpr h) ((sortI_perm l).trans (List.reverse_perm l).symm)
  rw [e, List.reverse_reverse]
theorem out_of {S T : List Int} (hS : S.Nodup) (h : S.length < T.length) (hT : T.Nodup) : ∃ z ∈ T, z ∉ S := by
  by_cases q : ∀ z ∈ T, z ∈ S
  · have := List.Nodup.length_le_of_subset hT (fun z hz => q z hz)
    omega
  · exact Classical.byContradiction fun c => q fun z hz => Classical.byContradiction fun d => c ⟨z, hz, d⟩
/-- a page more: no more misses -/
theorem go_more {k : Nat} {S ps : List Int} {n : Nat} (g : Go k S ps n) : ∀ {T : List Int}, S.Nodup → S.length ≤ k → T.Nodup → T.length ≤ k + 1 → (∀ x ∈ S, x ∈ T) → ∃ m, m ≤ n ∧ Go (k + 1) T ps m := by
  induction g with
  | nil S => intro T _ _ _ _ _; exact ⟨0, Nat.le_refl _, .nil T⟩
  | hit h r ih =>
    intro T h1 h2 h3 h4 h5
    obtain ⟨m, a, b⟩ := ih h1 h2 h3 h4 h5
    exact ⟨m, a, .hit (h5 _ h) b⟩
  | @miss S S' ps p n h mv r ih =>
    intro T h1 h2 h3 h4 h5
    have hS' : S'.Nodup ∧ S'.length ≤ k := by
      rcases mv with ⟨l, e⟩ | ⟨l, z, hz, e⟩
      · refine ⟨e.nodup_iff.mpr (List.nodup_cons.mpr ⟨h, h1⟩), ?_⟩
        rw [e.length_eq, List.length_cons]; omega
      · refine ⟨e.nodup_iff.mpr (List.nodup_cons.mpr ⟨fun q => h (List.mem_of_mem_erase q), h1.erase z⟩), ?_⟩
        rw [e.length_eq, List.length_cons, List.length_erase_of_mem hz]
        have := List.length_pos_of_mem hz
        omega
    by_cases hp : p ∈ T
    · obtain ⟨m, a, b⟩ := ih hS'.1 hS'.2 h3 h4 fun x hx => by
        rcases mv_sub mv hx with e | e
        · rw [e]; exact hp
        · exact h5 x e
      exact ⟨m, by omega, .hit hp b⟩
    · by_cases hl : T.length < k + 1
      · obtain ⟨m, a, b⟩ := ih (T := p :: T) hS'.1 hS'.2 (List.nodup_cons.mpr ⟨hp, h3⟩) (by rw [List.length_cons]; omega) fun x hx => by
          rcases mv_sub mv hx with e | e
          · rw [e]; exact List.mem_cons_self
          · exact List.mem_cons_of_mem _ (h5 x e)
        exact ⟨m + 1, by omega, .miss hp (.inl ⟨hl, List.Perm.refl _⟩) b⟩
      · obtain ⟨z, hz, hzS⟩ := out_of (S := S) (T := T) h1 (by omega) h3
        obtain ⟨m, a, b⟩ := ih (T := p :: T.erase z) hS'.1 hS'.2 (List.nodup_cons.mpr ⟨fun q => hp (List.mem_of_mem_erase q), h3.erase z⟩) (by
            rw [List.length_cons, List.length_erase_of_mem hz]
            have := List.length_pos_of_mem hz
            omega) fun x hx => by
          rcases mv_sub mv hx with e | e
          · rw [e]; exact List.mem_cons_self
          · refine List.mem_cons_of_mem _ ((List.mem_erase_of_ne ?_).mpr (h5 x e))
            rintro rfl
            exact hzS e
        exact ⟨m + 1, by omega, .miss hp (.inr ⟨hl, z, hz, List.Perm.refl _⟩) b⟩
theorem best_more {k : Nat} (hk : 1 ≤ k) {ps : List Int} (h9 : ∀ p ∈ ps, 0 ≤ p ∧ p ≤ 9) {a b : List Int × Int} (ha : a ∈ worksF (k : Nat) none ps) (mb : ∀ q ∈ worksF ((k + 1 : Nat) : Int) none ps, b.2 ≤ q.2) : b.2 ≤ a.2 := by
  obtain ⟨n, g, e⟩ := works_go hk h9 ha
  obtain ⟨m, hm, g2⟩ := go_more g (T := []) (by simp) (by simp) (by simp) (by simp) (by simp)
  obtain ⟨q, hq, hle⟩ := go_works (by omega) h9 g2
  have := mb q hq
  omega
/-- asked on: at most one miss more -/
theorem best_on {size : Int} (hs : 1 ≤ size) {ps : List Int} {p : Int} {a b : List Int × Int} (ha : a ∈ worksF size none ps) (ma : ∀ q ∈ worksF size none ps, a.2 ≤ q.2) (hb : b ∈ worksF size none (ps ++ [p])) (mb : ∀ q ∈ worksF size none (ps ++ [p]), b.2 ≤ q.2) : a.2 ≤ b.2 ∧ b.2 ≤ a.2 + 1 := by
  rw [worksF_app] at hb mb
  have L := least_behind (size := size) (page := p) (cost := costF none p) (w := worksF size none ps)
  constructor
  · obtain ⟨r, hr, hl⟩ := L.from_ b hb
    have := ma r hr
    rcases hl with ⟨_, h2⟩ | ⟨_, _, h3⟩
    · rw [h2]; exact this
    · rw [h3]
      show a.2 ≤ r.2 + 1
      omega
  · by_cases hp : p ∈ a.1
    · obtain ⟨c, h1, h2⟩ := L.le a ⟨a, ha, .inl ⟨hp, rfl⟩⟩
      have : b.2 ≤ c := mb _ h1
      omega
    · obtain ⟨m, hm⟩ := List.exists_mem_of_ne_nil _ (moves_ne (size := size) (held := a.1) (page := p) hs)
      obtain ⟨c, h1, h2⟩ := L.le (m, a.2 + costF none p) ⟨a, ha, .inr ⟨hp, hm, rfl⟩⟩
      have h2 : c ≤ a.2 + 1 := h2
      have : b.2 ≤ c := mb _ h1
      omega
/-- greater costs: no less -/
def Dom (w w' : Wk) : Prop := ∀ q ∈ w', ∃ r ∈ w, r.1 = q.1 ∧ r.2 ≤ q.2
theorem dom_step {size p c c' : Int} {w w' : Wk} (h : Dom w w') (hc : c ≤ c') : Dom (behindF size w p c) (behindF size w' p c') := fun q hq => by
  obtain ⟨r, hr, hl⟩ := least_behind.from_ q hq
  obtain ⟨r0, hr0, e1, e2⟩ := h r hr
  have L := least_behind (size := size) (page := p) (cost := c) (w := w)
  rcases hl with ⟨h1, rfl⟩ | ⟨h1, h2, h3⟩
  · obtain ⟨d, h4, h5⟩ := L.le r0 ⟨r0, hr0, .inl ⟨by rw [e1]; exact h1, rfl⟩⟩
    rw [e1] at h4
    exact ⟨_, h4, rfl, by show d ≤ q.2; omega⟩
  · obtain ⟨d, h4, h5⟩ := L.le (q.1, r0.2 + c) ⟨r0, hr0, .inr ⟨by rw [e1]; exact h1, by rw [e1]; exact h2, rfl⟩⟩
    exact ⟨_, h4, rfl, by show d ≤ q.2; have h5 : d ≤ r0.2 + c := h5; omega⟩
theorem dom_fold {size : Int} {cs cs' : Costs} : ∀ (ps : List Int) {w w' : Wk}, (∀ p ∈ ps, costF cs p ≤ costF cs' p) → Dom w w' → Dom (ps.foldl (fun w p => behindF size w p (costF cs p)) w) (ps.foldl (fun w p => behindF size w p (costF cs' p)) w')
  | [], _, _, _, h => h
  | p :: ps, w, w', hc, h => dom_fold ps (fun x hx => hc x (by simp [hx])) (dom_step h (hc p (by simp)))
theorem best_costs {size : Int} {cs cs' : Costs} {ps : List Int} (hc : ∀ p ∈ ps, costF cs p ≤ costF cs' p) {a b : List Int × Int} (ma : ∀ q ∈ worksF size cs ps, a.2 ≤ q.2) (hb : b ∈ worksF size cs' ps) : a.2 ≤ b.2 := by
  obtain ⟨r, hr, _, h⟩ := dom_fold ps hc (w := [([], 0)]) (w' := [([], 0)]) (fun q hq => ⟨q, hq, rfl, Int.le_refl _⟩) b hb
  have := ma r hr
  omega
/-- with room for all that differ each is missed once -/
theorem roomy {r : Str} {k : Nat} (hr : r ∈ ruleIx) (hk : 1 ≤ k) (h6 : k ≤ 6) {ks : List Int} (hl : ks.length ≤ k) : ∀ (ps : List Int) {s : Sta}, SOk r (k : Nat) s → (∀ x ∈ pagesS s, x ∈ ks) → (∀ p ∈ ps, p ∈ ks) → missesL (runG r (k : Nat) s ps).1 + (pagesS s).length ≤ ks.length
  | [], s, w, h1, _ => by
    have := List.Nodup.length_le_of_subset w.nd (fun x hx => h1 x hx)
    simp [runG, missesL]
    exact this
  | p :: ps, s, w, h1, h2 => by
    have t := step_ok (p := p) hr (size := (k : Nat)) (by omega) w
    have pl : s.1.length = (pagesS s).length := by simp [pagesS]
    have hp := h2 p (by simp)
    unfold runG
    rw [missesL_cons]
    by_cases h : p ∈ pagesS s
    · obtain ⟨e1, e2⟩ := t.hit h
      have ih := roomy hr hk h6 hl ps t.ok (fun x hx => h1 x (e2.mem_iff.mp hx)) fun x hx => h2 x (by simp [hx])
      rw [e1, if_pos rfl]
      rw [e2.length_eq] at ih
      omega
    · have hlt : (pagesS s).length < ks.length := by
        have := List.Nodup.length_le_of_subset (l₁ := p :: pagesS s) (l₂ := ks) (List.nodup_cons.mpr ⟨h, w.nd⟩) (fun x hx => by
          rcases List.mem_cons.mp hx with e | e
          · rw [e]; exact hp
          · exact h1 x e)
        rw [List.length_cons] at this
        omega
      obtain ⟨e1, e2⟩ := t.room h (by omega)
      have ih := roomy hr hk h6 hl ps t.ok (fun x hx => by
        rw [e2] at hx
        rcases List.mem_append.mp hx with e | e
        · exact h1 x e
        · rw [List.mem_singleton.mp e]; exact hp) fun x hx => h2 x (by simp [hx])
      rw [e1, if_neg (by simp)]
      rw [e2, List.length_append, List.length_singleton] at ih
      omega
theorem rule_diff {r : Str} {k : Nat} (hr : r ∈ ruleIx) (hk : 1 ≤ k) (h6 : k ≤ 6) {ps : List Int} {c : Nat} (hc : Diff ps c) (hck : c ≤ k) : missN r (k : Nat) ps = c := by
  obtain ⟨ks, h1, h2, h3⟩ := hc
  have a := go_diff (rule_go hr hk h6 ps (s := sta0) (sok0 (by omega))) ks h1 fun x hx => ⟨(h2 x).mp hx, by simp [pagesS]⟩
  have b := roomy hr hk h6 (ks := ks) (by omega) ps (s := sta0) (sok0 (by omega)) (by simp [pagesS]) fun p hp => (h2 p).mpr hp
  unfold missN
  simp [pagesS] at b
  omega

/-! cruel streams -/
/-- the first page from 0 on that isn't held -/
def freeF (s : Sta) (pages : Int) : Int := (((List.range pages.toNat).map fun (i : Nat) => (i : Int)).find? fun x => decide (x ∉ pagesS s)).getD 0
def cruelF (r : Str) (size pages : Int) : Nat → Sta × List Int
  | 0 => (sta0, [])
  | n + 1 => ((stepF r size (cruelF r size pages n).1 (freeF (cruelF r size pages n).1 pages)).1, (cruelF r size pages n).2 ++ [freeF (cruelF r size pages n).1 pages])
theorem free_ok {s : Sta} {size pages : Int} (hn : (pagesS s).Nodup) (hl : (s.1.length : Int) ≤ size) (hp : size + 1 ≤ pages) :
    (0 ≤ freeF s pages ∧ freeF s pages < pages) ∧ freeF s pages ∉ pagesS s ∧ ∀ x, 0 ≤ x → x < freeF s pages → x ∈ pagesS s := by
  have pl : s.1.length = (pagesS s).length := by simp [pagesS]
  unfold freeF
  cases e : ((List.range pages.toNat).map fun (i : Nat) => (i : Int)).find? fun x => decide (x ∉ pagesS s) with
  | none =>
    exfalso
    have h1 : ∀ x ∈ (List.range pages.toNat).map (fun (i : Nat) => (i : Int)), x ∈ pagesS s := fun x hx => by
      have := List.find?_eq_none.mp e x hx
      simpa using this
    have nd : ((List.range pages.toNat).map fun (i : Nat) => (i : Int)).Nodup := List.Pairwise.map _ (fun a b h => by omega) List.nodup_range
    have := List.Nodup.length_le_of_subset nd (fun x hx => h1 x hx)
    rw [List.length_map, List.length_range] at this
    omega
  | some x =>
    obtain ⟨h1, as, bs, h2, h3⟩ := List.find?_eq_some_iff_append.mp e
    have hx : x ∈ (List.range pages.toNat).map (fun (i : Nat) => (i : Int)) := by rw [h2]; simp
    obtain ⟨i, hi, rfl⟩ := List.mem_map.mp hx
    have hi := List.mem_range.mp hi
    refine ⟨by simp; omega, by simpa using h1, fun y y0 yl => ?_⟩
    obtain ⟨j, rfl⟩ := Int.eq_ofNat_of_zero_le y0
    have yl : (j : Int) < (i : Int) := yl
    clear e
    have hj : (j : Int) ∈ as := by
      have e1 : ((List.range pages.toNat).map fun (i : Nat) => (i : Int))[j]? = some (j : Int) := by
        rw [List.getElem?_map, List.getElem?_range (by omega)]; rfl
      have e2 : ((List.range pages.toNat).map fun (i : Nat) => (i : Int))[as.length]? = some (i : Int) := by
        rw [h2, List.getElem?_append_right (Nat.le_refl _), Nat.sub_self]; rfl
      have e3 : as.length = i := by
        have hlt : as.length < pages.toNat := by
          have := (List.getElem?_eq_some_iff.mp e2).1
          simpa using this
        rw [List.getElem?_map, List.getElem?_range hlt] at e2
        have e4 : ((as.length : Nat) : Int) = ((i : Nat) : Int) := Option.some.inj e2
        omega
      rw [h2, List.getElem?_append_left (by omega)] at e1
      exact List.mem_of_getElem? e1
    have := h3 _ hj
    simpa using this
theorem cruel_ok {r : Str} {size pages : Int} (hr : r ∈ ruleIx) (hs : 1 ≤ size ∧ size ≤ 6) (hp : size + 1 ≤ pages) : ∀ n, SOk r size (cruelF r size pages n).1 ∧ (cruelF r size pages n).2.length = n ∧ (∀ x ∈ (cruelF r size pages n).2, 0 ≤ x ∧ x < pages) ∧
    (runG r size sta0 (cruelF r size pages n).2).2 = (cruelF r size pages n).1 ∧ missesL (runG r size sta0 (cruelF r size pages n).2).1 = n
  | 0 => ⟨sok0 hs.1, rfl, by simp [cruelF], rfl, rfl⟩
  | n + 1 => by
    obtain ⟨h1, h2, h3, h4, h5⟩ := cruel_ok hr hs hp n
    obtain ⟨f1, f2, f3⟩ := free_ok h1.nd h1.len hp
    have t := step_ok (p := freeF (cruelF r size pages n).1 pages) hr hs h1
    have hf : (stepF r size (cruelF r size pages n).1 (freeF (cruelF r size pages n).1 pages)).2.1 = false := by
      by_cases hl : ((cruelF r size pages n).1.1.length : Int) < size
      · rw [(t.room f2 hl).1]
      · obtain ⟨g, _, e, _⟩ := t.full f2 hl
        rw [e]
    unfold cruelF
    refine ⟨t.ok, by rw [List.length_append, h2]; rfl, fun x hx => ?_, ?_, ?_⟩
    · rcases List.mem_append.mp hx with h | h
      · exact h3 x h
      · rw [List.mem_singleton.mp h]; exact f1
    · rw [runG_app, h4]
    · rw [runG_app]
      show missesL (_ ++ [_]) = _
      rw [misses_app, h5, h4, hf]
      simp
theorem cruel_take {r : Str} {size pages : Int} : ∀ (n m : Nat), m ≤ n → (cruelF r size pages n).2.length = n → (cruelF r size pages n).2.take m = (cruelF r size pages m).2
  | 0, m, h, _ => by have : m = 0 := by omega
                     subst this; rfl
  | n + 1, m, h, hl => by
    have hl' : (cruelF r size pages n).2.length = n := by
      unfold cruelF at hl
      rw [List.length_append, List.length_singleton] at hl
      omega
    by_cases e : m = n + 1
    · subst e
      exact List.take_of_length_le (by omega)
    · have ih := cruel_take n m (by omega) hl'
      rw [← ih]
      conv => lhs; unfold cruelF
      rw [List.take_append_of_le_length (by omega)]
def dsp_need_pages (K : PySem.W.Frag) : DSp := fun ds G Q E => ∃ size d e kd ke, ds = [dI size, d, e] ∧ kiD d G = some kd ∧ kiD e G = some ke ∧
  ((numB d (size + 1) 10 && numB e 0 60) = true → Q dN G) ∧ ((numB d (size + 1) 10 && numB e 0 60) = false → E (He.ga K "BadCount") [] G)
def dsp_cruel (K : PySem.W.Frag) : DSp := fun ds G Q _ => ∃ r size pages long, ds = [dS r, dI size, dI pages, dI long] ∧ r ∈ ruleIx ∧ 1 ≤ size ∧ size ≤ 6 ∧ size + 1 ≤ pages ∧ pages ≤ 10 ∧ 0 ≤ long ∧ long ≤ 60 ∧ Q (tupI (cruelF r size pages long.toNat).2) G
abbrev N_need_pages : List Str := ["size", "pages", "long"]
abbrev ps_need_pages : List Str := ["size", "pages", "long"]
@[simp] theorem st_need_pages (x0 x1 x2 : D) : startD N_need_pages [x0, x1, x2] = [some x0, some x1, some x2] := rfl
def t_need_pages (K : PySem.W.Frag) (WD : XDW) : TDS := (dIfS (dOr (dNot (dTest (dCall (dsp_is_number K) WD (dCons (dVar 1) (dCons (dOp dAdd (dVar 0) (dC (dI 1))) (dCons (dOp dAdd (dC (dI 9)) (dC (dI 1))) dNil)))))) (dNot (dTest (dCall (dsp_is_number K) WD (dCons (dVar 2) (dCons (dC (dI 0)) (dCons (dC (dI 60)) dNil))))))) (dRaise WD (He.ga K "BadCount") []) dNext)
abbrev N_cruel : List Str := ["rule", "size", "pages", "long", "state", "found", "turn", "held", "page", "one", "was_held", "gone"]
abbrev ps_cruel : List Str := ["rule", "size", "pages", "long"]
@[simp] theorem st_cruel (x0 x1 x2 x3 : D) : startD N_cruel [x0, x1, x2, x3] = [some x0, some x1, some x2, some x3, none, none, none, none, none, none, none, none] := rfl
def t_cruel_1 (K : PySem.W.Frag) (WD : XDW) : TDS := (dAsg (dCall (dsp_asked K) WD (dCons (dVar 0) (dCons (dVar 1) (dCons (dVar 4) (dCons (dVar 8) dNil))))) (gT 3 (gC (gN 4) (gC (gN 10) (gC (gN 11) gE)))))
def t_cruel_2 (K : PySem.W.Frag) (WD : XDW) : TDS := (dSeq (dDrop (dBm "list" dAppend (dVar 5) (dCons (dVar 8) dNil)))
  (t_cruel_1 K WD))
def t_cruel_3 (K : PySem.W.Frag) (WD : XDW) : TDS := (dSeq (dAsg (dOp dIx (dLc K (iRng1D (dCons (dVar 2) dNil)) (gN 9) (dTest (dOp dNotin (dVar 9) (dVar 7))) (dVar 9) [9]) (dC (dI 0))) (gN 8))
  (t_cruel_2 K WD))
def t_cruel_4 (K : PySem.W.Frag) (WD : XDW) : TDS := (dRet (dBi dTuple (dCons (dVar 5) dNil)))
def t_cruel_5 (K : PySem.W.Frag) (WD : XDW) : TDS := (dSeq (dFor K (iRng1D (dCons (dVar 3) dNil)) (gN 6) (dSeq (dAsg (dCall (dsp_pages_of K) WD (dCons (dVar 4) dNil)) (gN 7))
  (t_cruel_3 K WD)))
  (t_cruel_4 K WD))
def t_cruel_6 (K : PySem.W.Frag) (WD : XDW) : TDS := (dSeq (dPar 4 5 (dCons (dCall (dsp_started K) WD dNil) (dCons (dLst dNil) dNil)))
  (t_cruel_5 K WD))
def t_cruel_7 (K : PySem.W.Frag) (WD : XDW) : TDS := (dSeq (dDrop (dCall (dsp_need_pages K) WD (dCons (dVar 1) (dCons (dVar 2) (dCons (dVar 3) dNil)))))
  (t_cruel_6 K WD))
def t_cruel_8 (K : PySem.W.Frag) (WD : XDW) : TDS := (dSeq (dDrop (dCall (dsp_need_size K) WD (dCons (dVar 1) dNil)))
  (t_cruel_7 K WD))
def t_cruel (K : PySem.W.Frag) (WD : XDW) : TDS := (dSeq (dDrop (dCall (dsp_need_rule K) WD (dCons (dVar 0) dNil)))
  (t_cruel_8 K WD))
section
variable {K : PySem.W.Frag} {ds : List D} {G : GH} {QD : DK} {ED : XD}
theorem len_need_pages {Q : DK} {E : XD} (h : dsp_need_pages K ds G Q E) : ds.length = ps_need_pages.length := by
  obtain ⟨_, _, _, _, _, rfl, _⟩ := h; rfl
theorem len_cruel {Q : DK} {E : XD} (h : dsp_cruel K ds G Q E) : ds.length = ps_cruel.length := by
  obtain ⟨_, _, _, _, rfl, _⟩ := h; rfl
theorem pure_need_pages (h : dsp_need_pages K ds G QD ED) : t_need_pages K (excD K ED) (retD K QD) (startD N_need_pages ds) G := by
  obtain ⟨size, d, e, kd, ke, rfl, h1, h2, hy, hn⟩ := h
  unfold t_need_pages
  simp only [s_dIfS, s_dOr, s_dNot, s_dTest, s_dCall, s_dCons, s_dNil, s_dVar, s_dC, s_dOp, s_dAdd, gs_0, gs_s, st_need_pages]
  refine ⟨d, _, _, kd, rfl, h1, ?_⟩
  cases b : numB d (size + 1) (9 + 1) with
  | false =>
    simp
    exact exc_same (hn (by rw [show (10 : Int) = 9 + 1 from rfl, b]; rfl))
  | true =>
    simp
    refine ⟨e, _, _, ke, rfl, h2, ?_⟩
    cases b2 : numB e 0 60 with
    | false =>
      simp
      exact exc_same (hn (by rw [b2, Bool.and_false]))
    | true =>
      simp
      exact ret_same (hy (by rw [show (10 : Int) = 9 + 1 from rfl, b, b2]; rfl))
theorem free_at {s : Sta} {size pages : Int} (hn : (pagesS s).Nodup) (hl : (s.1.length : Int) ≤ size) (hp : size + 1 ≤ pages) : atI ((((List.range pages.toNat).map fun (i : Nat) => (i : Int)).filter fun x => decide (x ∉ pagesS s)).map dI) 0 = some (dI (freeF s pages)) := by
  have ok := free_ok hn hl hp
  have hm : freeF s pages ∈ ((List.range pages.toNat).map fun (i : Nat) => (i : Int)).filter fun x => decide (x ∉ pagesS s) := by
    rw [List.mem_filter]
    refine ⟨List.mem_map.mpr ⟨(freeF s pages).toNat, List.mem_range.mpr (by omega), by omega⟩, by simpa using ok.2.1⟩
  cases h : ((List.range pages.toNat).map fun (i : Nat) => (i : Int)).filter fun x => decide (x ∉ pagesS s) with
  | nil => rw [h] at hm; cases hm
  | cons x t =>
    have : freeF s pages = x := by
      unfold freeF
      rw [← List.head?_filter, h]; rfl
    rw [this]
    exact atI_z _ _
theorem pure_cruel (h : dsp_cruel K ds G QD ED) : t_cruel K (excD K ED) (retD K QD) (startD N_cruel ds) G := by
  obtain ⟨r, size, pages, long, rfl, hr, hs, hs6, hp, hp10, hl, hl60, hQ⟩ := h
  unfold t_cruel
  simp only [s_dSeq, s_dDrop, s_dCall, s_dCons, s_dNil, s_dVar, gs_0, gs_s, st_cruel]
  refine ⟨r, rfl, fun _ => ?_, fun h => absurd hr h⟩
  unfold t_cruel_8
  simp only [s_dSeq, s_dDrop, s_dCall, s_dCons, s_dNil, s_dVar, gs_0, gs_s]
  refine ⟨size, rfl, fun _ => ?_, fun h => absurd ⟨hs, hs6⟩ h⟩
  unfold t_cruel_7
  simp only [s_dSeq, s_dDrop, s_dCall, s_dCons, s_dNil, s_dVar, gs_0, gs_s]
  have e1 : (numB (dI pages) (size + 1) 10 && numB (dI long) 0 60) = true := by
    simp [numB]; omega
  refine ⟨size, _, _, .int, .int, rfl, rfl, rfl, fun _ => ?_, fun h => by rw [e1] at h; cases h⟩
  unfold t_cruel_6
  simp only [s_dSeq, s_dPar, s_dLst, s_dCall, s_dCons, s_dNil, s_dVar, gs_0, gs_s]
  refine ⟨rfl, by simp, fun a ha => ?_⟩
  simp only [ss_0, ss_s]
  unfold t_cruel_5
  refine dfor_w ?_
  simp only [s_iRng1D, s_dCons, s_dNil, s_dVar, gs_0, gs_s]
  refine ⟨by omega, fun i δ' G' => ∃ x6 x7 x8 x9 x10 x11, δ' = [some (dS r), some (dI size), some (dI pages), some (dI long), some (eSta (cruelF r size pages i).1), some (dR a), x6, x7, x8, x9, x10, x11] ∧ G' = gu G a (.lst ((cruelF r size pages i).2.map dI)), ⟨_, _, _, _, _, _, rfl, rfl⟩, fun _ _ _ _ => trivial, ?_, ?_⟩
  · rintro i x δ' G' hx ⟨x6, x7, x8, x9, x10, x11, rfl, rfl⟩
    obtain ⟨hi, rfl⟩ := rgD_of hx
    obtain ⟨w1, w2, _, _, _⟩ := cruel_ok (size := size) (pages := pages) hr ⟨hs, hs6⟩ hp i
    have wl := w1.len
    simp only [s_gN, ss_0, ss_s, s_dSeq, s_dAsg, s_dCall, s_dCons, s_dNil, s_dVar, gs_0, gs_s]
    refine ⟨_, rfl, by omega, fun q hq => ?_⟩
    unfold t_cruel_3
    simp only [s_dSeq, s_dAsg, s_dOp]
    have hqa : a ≠ q := fun e => by rw [← e, gu_same] at hq; cases hq
    generalize hG1 : gu (gu G a (.lst ((cruelF r size pages i).2.map dI))) q (.lst ((cruelF r size pages i).1.1.map fun r => dI r.1)) = G1
    have hG1q : G1 q = some (.lst ((pagesS (cruelF r size pages i).1).map dI)) := by
      rw [← hG1, gu_same]
      simp [pagesS]
    have hG1a : G1 a = some (.lst ((cruelF r size pages i).2.map dI)) := by
      rw [← hG1, gu_ne hqa, gu_same]
    refine dlc_pure ((((List.range pages.toNat).map fun (i : Nat) => (i : Int))).map dI) id (fun d => match d with | .at (.int x) => decide (x ∉ pagesS (cruelF r size pages i).1) | _ => false) (fun R h => ?_) (by simp [zL_val]; omega) ?_ ?_
    · simp only [s_iRng1D, s_dCons, s_dNil, s_dVar, gs_0, gs_s]
      refine ⟨by omega, ?_⟩
      have e2 : rgD 0 pages.toNat = ((List.range pages.toNat).map fun (i : Nat) => (i : Int)).map dI := by
        unfold rgD
        rw [List.map_map]
        refine List.map_congr_left fun i _ => ?_
        simp
      rw [e2]
      exact h _ fun _ _ _ => trivial
    · intro p hp x hx acc Qt Qf q1 q2
      obtain ⟨y, hy, rfl⟩ := List.mem_map.mp hx
      have hqp : q ≠ p := fun e => by rw [← e, hG1q] at hp; cases hp
      simp only [s_gN, wsAll_c, wsAll_n, ws_0, ws_s, ss_0, ss_s, s_dTest, s_dOp, s_dVar, gs_0, gs_s]
      refine in_pins (G := gu G1 p (.lst acc)) (.inr (.inl ⟨q, rfl, by rw [gu_ne hqp]; exact hG1q⟩)) ?_
      by_cases hyp : y ∈ pagesS (cruelF r size pages i).1
      · simp [hyp]
        exact q2 (by simp [hyp])
      · simp [hyp]
        exact q1 (by simp [hyp])
    · intro p hp2
      simp only [s_dC, s_dIx]
      have e3 : List.map id (List.filter (fun d => match d with | .at (.int x) => decide (x ∉ pagesS (cruelF r size pages i).1) | _ => false) ((((List.range pages.toNat).map fun (i : Nat) => (i : Int))).map dI)) = ((((List.range pages.toNat).map fun (i : Nat) => (i : Int)).filter fun x => decide (x ∉ pagesS (cruelF r size pages i).1)).map dI) := by
        rw [List.map_id, List.filter_map]; rfl
      rw [e3]
      refine ⟨_, _, gu_same, free_at w1.nd w1.len hp, ?_⟩
      have hle := Le.new (m := .lst ((((List.range pages.toNat).map fun (i : Nat) => (i : Int)).filter fun x => decide (x ∉ pagesS (cruelF r size pages i).1)).map dI)) hp2
      have hG2a := hle _ _ hG1a
      have hle0 : Le (gu G a (.lst ((cruelF r size pages i).2.map dI))) G1 := by rw [← hG1]; exact Le.new hq
      have hle2 := hle0.trans hle
      clear e3
      generalize gu G1 p (.lst ((((List.range pages.toNat).map fun (i : Nat) => (i : Int)).filter fun x => decide (x ∉ pagesS (cruelF r size pages i).1)).map dI)) = G2 at hle hG2a hle2
      unfold t_cruel_2
      simp only [s_gN, ss_0, ss_s, s_dSeq, s_dDrop, s_dBm, s_dAppend, s_dCons, s_dNil, s_dVar, gs_0, gs_s]
      refine ⟨.inl ⟨rfl, _, hG2a⟩, _, hG2a, by rw [List.length_map, w2, zL_val]; omega, ?_⟩
      unfold t_cruel_1
      simp only [s_dAsg, s_dCall, s_dCons, s_dNil, s_dVar, gs_0, gs_s]
      refine ⟨r, size, _, _, rfl, by omega, hr, w1.handOk, hs, ?_⟩
      simp
      refine ⟨?_, rfl⟩
      show Ent K _ (gu G a (.lst (((cruelF r size pages i).2 ++ [freeF (cruelF r size pages i).1 pages]).map dI)))
      rw [List.map_append]
      have := Ent.le (K := K) (hle2.gu (p := a) (m := .lst ((cruelF r size pages i).2.map dI ++ [dI (freeF (cruelF r size pages i).1 pages)])))
      rw [gu_gu] at this
      exact this
  · rintro δ' G' ⟨x6, x7, x8, x9, x10, x11, rfl, rfl⟩
    unfold t_cruel_4
    rw [rgD_len]
    simp only [s_dRet, s_dBi, s_dTuple, s_dCons, s_dNil, s_dVar, gs_0, gs_s]
    refine ⟨_, gu_same, ?_⟩
    exact ret_new ha hQ
end
end Cb

set_option Elab.async false
set_option linter.all false
set_option maxRecDepth 100000
set_option maxHeartbeats 0
namespace K03
open PySem PySem.Spec PyProof.Rows L2 Dl Cb
/-! ### the text -/
def top (i : Nat) : Stmt := PySem.Challenge.pw_cachebet_k03_whole_no_rule_is_better.main.body.getD i (.Pass ⟨0, 0, 0, 0⟩)
abbrev s_BadStream_init : Stmt := inClass (top 4) 0
abbrev s_is_number : Stmt := top 12
abbrev s_need_rule : Stmt := top 13
abbrev s_need_size : Stmt := top 14
abbrev s_need_stream : Stmt := top 15
abbrev s_pages_of : Stmt := top 16
abbrev s_started : Stmt := top 17
abbrev s_hit : Stmt := top 18
abbrev s_loser : Stmt := top 19
abbrev s_mark_of : Stmt := top 20
abbrev s_miss : Stmt := top 21
abbrev s_asked : Stmt := top 22
abbrev s_need_costs : Stmt := top 25
abbrev s_cost_of : Stmt := top 26
abbrev s_moves : Stmt := top 27
abbrev s_work_behind : Stmt := top 28
abbrev s_works_of : Stmt := top 29
abbrev s_cheapest : Stmt := top 30
abbrev s_step_back : Stmt := top 31
abbrev s_next_ask : Stmt := top 32
abbrev s_farthest : Stmt := top 33
abbrev s_run_by : Stmt := top 35
abbrev s_run : Stmt := top 36
abbrev s_misses_in : Stmt := top 37
abbrev s_misses_by : Stmt := top 38
abbrev s_curve : Stmt := top 39
abbrev s_cruel : Stmt := top 40
abbrev s_need_pages : Stmt := top 41
abbrev s_law_start : Stmt := top 43
abbrev s_law_drawn : Stmt := top 44
abbrev s_law_rule : Stmt := top 45
abbrev s_law_stream : Stmt := top 46
abbrev s_law : Stmt := top 47
/-! ### the slots -/
abbrev N_BadStream_init : List Str := ["self", "number"]
abbrev ps_BadStream_init : List Str := ["self", "number"]
@[simp] theorem st_BadStream_init (x0 x1 : D) : startD N_BadStream_init [x0, x1] = [some x0, some x1] := rfl
abbrev N_law : List Str := ["_law_script", "_law_state", "_law_turn", "_law_rule_here", "_law_size", "_law_stream_here", "_law_total", "_law_used", "_law_k", "_law_last", "_law_costs", "_law_more", "_law_cost", "_law_pages", "_law_hard", "_law_page", "_law_held"]
abbrev ps_law : List Str := ["_law_script"]
@[simp] theorem st_law (x0 : D) : startD N_law [x0] = [some x0, none, none, none, none, none, none, none, none, none, none, none, none, none, none, none, none] := rfl
theorem sc_BadStream_init : FnScope N_BadStream_init ps_BadStream_init (defScope s_BadStream_init) := ⟨rfl, rfl, rfl, by decide +kernel, rfl, by decide +kernel, by decide +kernel⟩
theorem sc_is_number : FnScope N_is_number ps_is_number (defScope s_is_number) := ⟨rfl, rfl, rfl, by decide +kernel, rfl, by decide +kernel, by decide +kernel⟩
theorem sc_need_rule : FnScope N_need_rule ps_need_rule (defScope s_need_rule) := ⟨rfl, rfl, rfl, by decide +kernel, rfl, by decide +kernel, by decide +kernel⟩
theorem sc_need_size : FnScope N_need_size ps_need_size (defScope s_need_size) := ⟨rfl, rfl, rfl, by decide +kernel, rfl, by decide +kernel, by decide +kernel⟩
theorem sc_need_stream : FnScope N_need_stream ps_need_stream (defScope s_need_stream) := ⟨rfl, rfl, rfl, by decide +kernel, rfl, by decide +kernel, by decide +kernel⟩
theorem sc_pages_of : FnScope N_pages_of ps_pages_of (defScope s_pages_of) := ⟨rfl, rfl, rfl, by decide +kernel, rfl, by decide +kernel, by decide +kernel⟩
theorem sc_started : FnScope N_started ps_started (defScope s_started) := ⟨rfl, rfl, rfl, by decide +kernel, rfl, by decide +kernel, by decide +kernel⟩
theorem sc_hit : FnScope N_hit ps_hit (defScope s_hit) := ⟨rfl, rfl, rfl, by decide +kernel, rfl, by decide +kernel, by decide +kernel⟩
theorem sc_loser : FnScope N_loser ps_loser (defScope s_loser) := ⟨rfl, rfl, rfl, by decide +kernel, rfl, by decide +kernel, by decide +kernel⟩
theorem sc_mark_of : FnScope N_mark_of ps_mark_of (defScope s_mark_of) := ⟨rfl, rfl, rfl, by decide +kernel, rfl, by decide +kernel, by decide +kernel⟩
theorem sc_miss : FnScope N_miss ps_miss (defScope s_miss) := ⟨rfl, rfl, rfl, by decide +kernel, rfl, by decide +kernel, by decide +kernel⟩
theorem sc_asked : FnScope N_asked ps_asked (defScope s_asked) := ⟨rfl, rfl, rfl, by decide +kernel, rfl, by decide +kernel, by decide +kernel⟩
theorem sc_need_costs : FnScope N_need_costs ps_need_costs (defScope s_need_costs) := ⟨rfl, rfl, rfl, by decide +kernel, rfl, by decide +kernel, by decide +kernel⟩
theorem sc_cost_of : FnScope N_cost_of ps_cost_of (defScope s_cost_of) := ⟨rfl, rfl, rfl, by decide +kernel, rfl, by decide +kernel, by decide +kernel⟩
theorem sc_moves : FnScope N_moves ps_moves (defScope s_moves) := ⟨rfl, rfl, rfl, by decide +kernel, rfl, by decide +kernel, by decide +kernel⟩
theorem sc_work_behind : FnScope N_work_behind ps_work_behind (defScope s_work_behind) := ⟨rfl, rfl, rfl, by decide +kernel, rfl, by decide +kernel, by decide +kernel⟩
theorem sc_works_of : FnScope N_works_of ps_works_of (defScope s_works_of) := ⟨rfl, rfl, rfl, by decide +kernel, rfl, by decide +kernel, by decide +kernel⟩
theorem sc_cheapest : FnScope N_cheapest ps_cheapest (defScope s_cheapest) := ⟨rfl, rfl, rfl, by decide +kernel, rfl, by decide +kernel, by decide +kernel⟩
theorem sc_step_back : FnScope N_step_back ps_step_back (defScope s_step_back) := ⟨rfl, rfl, rfl, by decide +kernel, rfl, by decide +kernel, by decide +kernel⟩
theorem sc_next_ask : FnScope N_next_ask ps_next_ask (defScope s_next_ask) := ⟨rfl, rfl, rfl, by decide +kernel, rfl, by decide +kernel, by decide +kernel⟩
theorem sc_farthest : FnScope N_farthest ps_farthest (defScope s_farthest) := ⟨rfl, rfl, rfl, by decide +kernel, rfl, by decide +kernel, by decide +kernel⟩
theorem sc_run_by : FnScope N_run_by ps_run_by (defScope s_run_by) := ⟨rfl, rfl, rfl, by decide +kernel, rfl, by decide +kernel, by decide +kernel⟩
theorem sc_run : FnScope N_run ps_run (defScope s_run) := ⟨rfl, rfl, rfl, by decide +kernel, rfl, by decide +kernel, by decide +kernel⟩
theorem sc_misses_in : FnScope N_misses_in ps_misses_in (defScope s_misses_in) := ⟨rfl, rfl, rfl, by decide +kernel, rfl, by decide +kernel, by decide +kernel⟩
theorem sc_misses_by : FnScope N_misses_by ps_misses_by (defScope s_misses_by) := ⟨rfl, rfl, rfl, by decide +kernel, rfl, by decide +kernel, by decide +kernel⟩
theorem sc_curve : FnScope N_curve ps_curve (defScope s_curve) := ⟨rfl, rfl, rfl, by decide +kernel, rfl, by decide +kernel, by decide +kernel⟩
theorem sc_cruel : FnScope N_cruel ps_cruel (defScope s_cruel) := ⟨rfl, rfl, rfl, by decide +kernel, rfl, by decide +kernel, by decide +kernel⟩
theorem sc_need_pages : FnScope N_need_pages ps_need_pages (defScope s_need_pages) := ⟨rfl, rfl, rfl, by decide +kernel, rfl, by decide +kernel, by decide +kernel⟩
theorem sc_law_start : FnScope N_law_start ps_law_start (defScope s_law_start) := ⟨rfl, rfl, rfl, by decide +kernel, rfl, by decide +kernel, by decide +kernel⟩
theorem sc_law_drawn : FnScope N_law_drawn ps_law_drawn (defScope s_law_drawn) := ⟨rfl, rfl, rfl, by decide +kernel, rfl, by decide +kernel, by decide +kernel⟩
theorem sc_law_rule : FnScope N_law_rule ps_law_rule (defScope s_law_rule) := ⟨rfl, rfl, rfl, by decide +kernel, rfl, by decide +kernel, by decide +kernel⟩
theorem sc_law_stream : FnScope N_law_stream ps_law_stream (defScope s_law_stream) := ⟨rfl, rfl, rfl, by decide +kernel, rfl, by decide +kernel, by decide +kernel⟩
theorem sc_law : FnScope N_law ps_law (defScope s_law) := ⟨rfl, rfl, rfl, by decide +kernel, rfl, by decide +kernel, by decide +kernel⟩
/-! ### the head -/
def d_BadStream_init : He.DefD := ⟨("BadStream", some "__init__"), "__init__", "BadStream.__init__", defArgs s_BadStream_init, defBody s_BadStream_init, defScope s_BadStream_init, [], []⟩
def d_is_number : He.DefD := ⟨("is_number", none), "is_number", "is_number", defArgs s_is_number, defBody s_is_number, defScope s_is_number, [], []⟩
def d_need_rule : He.DefD := ⟨("need_rule", none), "need_rule", "need_rule", defArgs s_need_rule, defBody s_need_rule, defScope s_need_rule, [], []⟩
def d_need_size : He.DefD := ⟨("need_size", none), "need_size", "need_size", defArgs s_need_size, defBody s_need_size, defScope s_need_size, [], []⟩
def d_need_stream : He.DefD := ⟨("need_stream", none), "need_stream", "need_stream", defArgs s_need_stream, defBody s_need_stream, defScope s_need_stream, [], []⟩
def d_pages_of : He.DefD := ⟨("pages_of", none), "pages_of", "pages_of", defArgs s_pages_of, defBody s_pages_of, defScope s_pages_of, [], []⟩
def d_started : He.DefD := ⟨("started", none), "started", "started", defArgs s_started, defBody s_started, defScope s_started, [], []⟩
def d_hit : He.DefD := ⟨("hit", none), "hit", "hit", defArgs s_hit, defBody s_hit, defScope s_hit, [], []⟩
def d_loser : He.DefD := ⟨("loser", none), "loser", "loser", defArgs s_loser, defBody s_loser, defScope s_loser, [], []⟩
def d_mark_of : He.DefD := ⟨("mark_of", none), "mark_of", "mark_of", defArgs s_mark_of, defBody s_mark_of, defScope s_mark_of, [], []⟩
def d_miss : He.DefD := ⟨("miss", none), "miss", "miss", defArgs s_miss, defBody s_miss, defScope s_miss, [], []⟩
def d_asked : He.DefD := ⟨("asked", none), "asked", "asked", defArgs s_asked, defBody s_asked, defScope s_asked, [], []⟩
def d_need_costs : He.DefD := ⟨("need_costs", none), "need_costs", "need_costs", defArgs s_need_costs, defBody s_need_costs, defScope s_need_costs, [], []⟩
def d_cost_of : He.DefD := ⟨("cost_of", none), "cost_of", "cost_of", defArgs s_cost_of, defBody s_cost_of, defScope s_cost_of, [], []⟩
def d_moves : He.DefD := ⟨("moves", none), "moves", "moves", defArgs s_moves, defBody s_moves, defScope s_moves, [], []⟩
def d_work_behind : He.DefD := ⟨("work_behind", none), "work_behind", "work_behind", defArgs s_work_behind, defBody s_work_behind, defScope s_work_behind, [], []⟩
def d_works_of : He.DefD := ⟨("works_of", none), "works_of", "works_of", defArgs s_works_of, defBody s_works_of, defScope s_works_of, [], []⟩
def d_cheapest : He.DefD := ⟨("cheapest", none), "cheapest", "cheapest", defArgs s_cheapest, defBody s_cheapest, defScope s_cheapest, [], [("weights", .non)]⟩
def d_step_back : He.DefD := ⟨("step_back", none), "step_back", "step_back", defArgs s_step_back, defBody s_step_back, defScope s_step_back, [], []⟩
def d_next_ask : He.DefD := ⟨("next_ask", none), "next_ask", "next_ask", defArgs s_next_ask, defBody s_next_ask, defScope s_next_ask, [], []⟩
def d_farthest : He.DefD := ⟨("farthest", none), "farthest", "farthest", defArgs s_farthest, defBody s_farthest, defScope s_farthest, [], []⟩
def d_run_by : He.DefD := ⟨("run_by", none), "run_by", "run_by", defArgs s_run_by, defBody s_run_by, defScope s_run_by, [], []⟩
def d_run : He.DefD := ⟨("run", none), "run", "run", defArgs s_run, defBody s_run, defScope s_run, [], []⟩
def d_misses_in : He.DefD := ⟨("misses_in", none), "misses_in", "misses_in", defArgs s_misses_in, defBody s_misses_in, defScope s_misses_in, [], []⟩
def d_misses_by : He.DefD := ⟨("misses_by", none), "misses_by", "misses_by", defArgs s_misses_by, defBody s_misses_by, defScope s_misses_by, [], []⟩
def d_curve : He.DefD := ⟨("curve", none), "curve", "curve", defArgs s_curve, defBody s_curve, defScope s_curve, [], []⟩
def d_cruel : He.DefD := ⟨("cruel", none), "cruel", "cruel", defArgs s_cruel, defBody s_cruel, defScope s_cruel, [], []⟩
def d_need_pages : He.DefD := ⟨("need_pages", none), "need_pages", "need_pages", defArgs s_need_pages, defBody s_need_pages, defScope s_need_pages, [], []⟩
def d_law_start : He.DefD := ⟨("_law_start", none), "_law_start", "_law_start", defArgs s_law_start, defBody s_law_start, defScope s_law_start, [], []⟩
def d_law_drawn : He.DefD := ⟨("_law_drawn", none), "_law_drawn", "_law_drawn", defArgs s_law_drawn, defBody s_law_drawn, defScope s_law_drawn, [], []⟩
def d_law_rule : He.DefD := ⟨("_law_rule", none), "_law_rule", "_law_rule", defArgs s_law_rule, defBody s_law_rule, defScope s_law_rule, [], []⟩
def d_law_stream : He.DefD := ⟨("_law_stream", none), "_law_stream", "_law_stream", defArgs s_law_stream, defBody s_law_stream, defScope s_law_stream, [], []⟩
def d_law : He.DefD := ⟨("law", none), "law", "law", defArgs s_law, defBody s_law, defScope s_law, [], []⟩
def fn : List He.DefD := [d_BadStream_init, d_is_number, d_need_rule, d_need_size, d_need_stream, d_pages_of, d_started, d_hit, d_loser, d_mark_of, d_miss, d_asked, d_need_costs, d_cost_of, d_moves, d_work_behind, d_works_of, d_cheapest, d_step_back, d_next_ask, d_farthest, d_run_by, d_run, d_misses_in, d_misses_by, d_curve, d_cruel, d_need_pages, d_law_start, d_law_drawn, d_law_rule, d_law_stream, d_law]
def fa : List He.Fa := [.glo "CacheError", .glo "BadRule", .glo "BadSize", .glo "BadStream", .glo "BadCosts", .glo "BadCount", .glo "is_number", .glo "need_rule", .glo "need_size", .glo "need_stream", .glo "pages_of", .glo "started", .glo "hit", .glo "loser", .glo "mark_of", .glo "miss", .glo "asked", .glo "need_costs", .glo "cost_of", .glo "moves", .glo "work_behind", .glo "works_of", .glo "cheapest", .glo "step_back", .glo "next_ask", .glo "farthest", .glo "run_by", .glo "run", .glo "misses_in", .glo "misses_by", .glo "curve", .glo "cruel", .glo "need_pages", .glo "_law_start", .glo "_law_drawn", .glo "_law_rule", .glo "_law_stream", .glo "law", .glo "RULES", .free "ValueError", .free "all", .free "bool", .free "enumerate", .free "int", .free "isinstance", .free "len", .free "list", .free "max", .free "min", .free "range", .free "set", .free "sorted", .free "str", .free "tuple", .int "MOST_SIZE" 6, .int "MOST_PAGE" 9, .int "MOST_ASKS" 60, .int "MOST_COST" 99, .exc "CacheError", .exc "BadRule", .exc "BadSize", .exc "BadCosts", .exc "BadCount"]
def ex (K : PySem.W.Frag) : Bool := [He.tupB K "RULES" [.str "came", .str "used", .str "last", .str "often", .str "clock", .str "high"]].all id
abbrev R : PySem.W.OpenRow := PySem.W.OpenLaw.row PySem.Challenge.rw_cachebet_k03_whole_no_rule_is_better
abbrev hk : PySem.W.Hook := He.hookX 5 fa fn [] [] ex
def ob (s : PySem.W.SharedT) : He.AlX := He.obsX 5 fa fn [] [] ex (HandSHeadRun.getT s)
theorem ob_eq (s : PySem.W.SharedT) : ob s = hk.obs s.abs := He.obsX_eq (HandSHeadRun.getT_eq s)
def loose : List PySem.Str := (["__name__", "CacheError", "BadRule", "BadSize", "BadStream", "BadCosts", "BadCount", "RULES", "MOST_SIZE", "MOST_PAGE", "MOST_ASKS", "is_number", "need_rule", "need_size", "need_stream", "pages_of"] : List PySem.Str) ++ (["started", "hit", "loser", "mark_of", "miss", "asked", "MOST_COST", "need_costs", "cost_of", "moves", "work_behind", "works_of", "cheapest", "step_back", "next_ask", "farthest"] : List PySem.Str) ++ (["run_by", "run", "misses_in", "misses_by", "curve", "cruel", "need_pages", "_law_start", "_law_drawn", "_law_rule", "_law_stream"] : List PySem.Str)
theorem run (w : World) : HandSHeadRun.RunEq R (PySem.W.view R.prog [47]) hk ob 6000 loose w := by
  intro os
  kernel_rfl
end K03

set_option Elab.async false
set_option linter.all false
set_option maxRecDepth 100000
set_option maxHeartbeats 4000000
namespace K03
open PySem PySem.Spec PyProof.Rows L2 Dl Cb
abbrev dsp_law (K : PySem.W.Frag) : DSp := dspLaw

def t_law_1 (K : PySem.W.Frag) (WD : XDW) : TDS := (dIfS (dNot (dTest (dChain (dI0 fun i j => .bl (decide (i ≤ j))) (dI0 fun i j => .bl (decide (i ≤ j))) (dC (dI 0)) (dOp (dI0 fun i j => .int (i - j)) (dOp dIx (dCallD (dsp_cheapest K) [dN] WD (dCons (dVar 4) (dCons (dSl (dVar 5) dNoPart (dPart (dOp dAdd (dVar 8) (dC (dI 1))))) dNil))) (dC (dI 0))) (dVar 9)) (dC (dI 1))))) (dRet (dC (dB false))) dNext)

def t_law_2 (K : PySem.W.Frag) (WD : XDW) : TDS := (dIfS (dTest (dOp dNe (dLc K (iRng1D (dCons (dOp dIx (dVar 14) (dVar 8)) dNil)) (gN 15) (dTest (dOp dNotin (dVar 15) (dVar 16))) (dVar 15) [15]) (dLst dNil))) (dRet (dC (dB false))) dNext)

def t_law_3 (K : PySem.W.Frag) (WD : XDW) : TDS := (dFor K (iRng1D (dCons (dBi dLen (dCons (dVar 14) dNil)) dNil)) (gN 8) (dSeq (dAsg (dOp dIx (dCall (dsp_run K) WD (dCons (dVar 3) (dCons (dVar 4) (dCons (dSl (dVar 14) dNoPart (dPart (dVar 8))) dNil)))) (dC (dI 2))) (gN 16))
  (t_law_2 K WD)))

def t_law_4 (K : PySem.W.Frag) (WD : XDW) : TDS := (dSeq (dIfS (dOr (dTest (dOp dNe (dOp dIx (dCall (dsp_run K) WD (dCons (dVar 3) (dCons (dVar 4) (dCons (dVar 14) dNil)))) (dC (dI 0))) (dBi dLen (dCons (dVar 14) dNil)))) (dTest (dOp dNe (dLc K (iSeqD (dVar 14)) (gN 15) (dNot (dTest (dChain (dI0 fun i j => .bl (decide (i ≤ j))) (dI0 fun i j => .bl (decide (i < j))) (dC (dI 0)) (dVar 15) (dVar 13)))) (dVar 15) [15]) (dLst dNil)))) (dRet (dC (dB false))) dNext)
  (t_law_3 K WD))

def t_law_5 (K : PySem.W.Frag) (WD : XDW) : TDS := (dSeq (dAsg (dCall (dsp_cruel K) WD (dCons (dVar 3) (dCons (dVar 4) (dCons (dVar 13) (dCons (dCall (dsp_law_drawn K) WD (dCons (dVar 1) (dCons (dC (dI 61)) dNil))) dNil))))) (gN 14))
  (t_law_4 K WD))

def t_law_6 (K : PySem.W.Frag) (WD : XDW) : TDS := (dSeq (dAsg (dOp dAdd (dOp dAdd (dVar 4) (dC (dI 1))) (dCall (dsp_law_drawn K) WD (dCons (dVar 1) (dCons (dOp (dI0 fun i j => .int (i - j)) (dC (dI 10)) (dVar 4)) dNil)))) (gN 13))
  (t_law_5 K WD))

def t_law_7 (K : PySem.W.Frag) (WD : XDW) : TDS := (dSeq (dIfS (dAnd (dTest (dOp (dI0 fun i j => .bl (decide (i ≤ j))) (dLenSet (dVar 5)) (dVar 4))) (dTest (dOp dNe (dOp dIx (dCall (dsp_run K) WD (dCons (dVar 3) (dCons (dVar 4) (dCons (dVar 5) dNil)))) (dC (dI 0))) (dLenSet (dVar 5))))) (dRet (dC (dB false))) dNext)
  (t_law_6 K WD))

def t_law_8 (K : PySem.W.Frag) (WD : XDW) : TDS := (dSeq (dIfS (dNot (dTest (dChain (dI0 fun i j => .bl (decide (i ≤ j))) (dI0 fun i j => .bl (decide (i ≤ j))) (dVar 6) (dOp dIx (dCallK 2 1 (dsp_cheapest K) WD (dCons (dVar 4) (dCons (dVar 5) dNil)) (dCons (dVar 10) dNil)) (dC (dI 0))) (dOp dIx (dCallK 2 1 (dsp_cheapest K) WD (dCons (dVar 4) (dCons (dVar 5) dNil)) (dCons (dVar 11) dNil)) (dC (dI 0)))))) (dRet (dC (dB false))) dNext)
  (t_law_7 K WD))

def t_law_9 (K : PySem.W.Frag) (WD : XDW) : TDS := (dSeq (dAsg (dBi dTuple (dCons (dLc K (iSeqD (dVar 10)) (gN 12) dYes (dOp dAdd (dVar 12) (dCall (dsp_law_drawn K) noX (dCons (dVar 1) (dCons (dC (dI 3)) dNil)))) [12]) dNil)) (gN 11))
  (t_law_8 K WD))

def t_law_10 (K : PySem.W.Frag) (WD : XDW) : TDS := (dSeq (dAsg (dBi dTuple (dCons (dLc K (iRng1D (dCons (dC (dI 10)) dNil)) (gN 8) dYes (dOp dAdd (dC (dI 1)) (dCall (dsp_law_drawn K) noX (dCons (dVar 1) (dCons (dC (dI 9)) dNil)))) [8]) dNil)) (gN 10))
  (t_law_9 K WD))

def t_law_11 (K : PySem.W.Frag) (WD : XDW) : TDS := (dSeq (dFor K (iRng2D (dCons (dBi (dTwo fun i j => if j > i then j else i) (dCons (dC (dI 0)) (dCons (dOp (dI0 fun i j => .int (i - j)) (dBi dLen (dCons (dVar 5) dNil)) (dC (dI 4))) dNil))) (dCons (dBi dLen (dCons (dVar 5) dNil)) dNil))) (gN 8) (dSeq (dAsg (dOp dIx (dCallD (dsp_cheapest K) [dN] WD (dCons (dVar 4) (dCons (dSl (dVar 5) dNoPart (dPart (dVar 8))) dNil))) (dC (dI 0))) (gN 9))
  (t_law_1 K WD)))
  (t_law_10 K WD))

def t_law_12 (K : PySem.W.Frag) (WD : XDW) : TDS := (dSeq (dIfS (dAnd (dTest (dOp (dI0 fun i j => .bl (decide (i < j))) (dVar 4) (dC (dI 6)))) (dTest (dOp (dI0 fun i j => .bl (decide (j < i))) (dOp dIx (dCallD (dsp_cheapest K) [dN] WD (dCons (dOp dAdd (dVar 4) (dC (dI 1))) (dCons (dVar 5) dNil))) (dC (dI 0))) (dVar 6)))) (dRet (dC (dB false))) dNext)
  (t_law_11 K WD))

def t_law_13 (K : PySem.W.Frag) (WD : XDW) : TDS := (dSeq (dIfS (dOr (dTest (dOp dNe (dVar 7) (dRev (dBi dSortL (dCons (dVar 7) dNil))))) (dTest (dOp dNe (dOp dIx (dVar 7) (dOp (dI0 fun i j => .int (i - j)) (dVar 4) (dC (dI 1)))) (dOp dIx (dCall (dsp_run K) WD (dCons (dC (dS "used")) (dCons (dVar 4) (dCons (dVar 5) dNil)))) (dC (dI 0)))))) (dRet (dC (dB false))) dNext)
  (t_law_12 K WD))

def t_law_14 (K : PySem.W.Frag) (WD : XDW) : TDS := (dSeq (dAsg (dCall (dsp_curve K) WD (dCons (dC (dS "used")) (dCons (dVar 5) (dCons (dC (dI 6)) dNil)))) (gN 7))
  (t_law_13 K WD))

def t_law_15 (K : PySem.W.Frag) (WD : XDW) : TDS := (dSeq (dIfS (dOr (dTest (dOp (dI0 fun i j => .bl (decide (i < j))) (dVar 6) (dLenSet (dVar 5)))) (dTest (dOp (dI0 fun i j => .bl (decide (j < i))) (dVar 6) (dBi dLen (dCons (dVar 5) dNil))))) (dRet (dC (dB false))) dNext)
  (t_law_14 K WD))

def t_law_16 (K : PySem.W.Frag) (WD : XDW) : TDS := (dSeq (dIfS (dOr (dTest (dOp (dI0 fun i j => .bl (decide (i < j))) (dOp dIx (dCall (dsp_run K) WD (dCons (dVar 3) (dCons (dVar 4) (dCons (dVar 5) dNil)))) (dC (dI 0))) (dVar 6))) (dTest (dOp dNe (dOp dIx (dCall (dsp_farthest K) WD (dCons (dVar 4) (dCons (dVar 5) dNil))) (dC (dI 0))) (dVar 6)))) (dRet (dC (dB false))) dNext)
  (t_law_15 K WD))

def t_law_17 (K : PySem.W.Frag) (WD : XDW) : TDS := (dSeq (dAsg (dOp dIx (dCallD (dsp_cheapest K) [dN] WD (dCons (dVar 4) (dCons (dVar 5) dNil))) (dC (dI 0))) (gN 6))
  (t_law_16 K WD))

def t_law_18 (K : PySem.W.Frag) (WD : XDW) : TDS := (dSeq (dAsg (dCall (dsp_law_stream K) WD (dCons (dVar 1) (dCons (dOp dAdd (dC (dI 2)) (dCall (dsp_law_drawn K) WD (dCons (dVar 1) (dCons (dC (dI 5)) dNil)))) (dCons (dOp dIx (dLst (dCons (dC (dI 15)) (dCons (dC (dI 40)) dNil))) (dCall (dsp_law_drawn K) WD (dCons (dVar 1) (dCons (dC (dI 2)) dNil)))) dNil)))) (gN 5))
  (t_law_17 K WD))

def t_law_19 (K : PySem.W.Frag) (WD : XDW) : TDS := (dRet (dC (dB true)))

def t_law_20 (K : PySem.W.Frag) (WD : XDW) : TDS := (dSeq (dFor K (iRng1D (dCons (dC (dI 3)) dNil)) (gN 2) (dSeq (dPar 3 4 (dCons (dCall (dsp_law_rule K) WD (dCons (dVar 1) dNil)) (dCons (dOp dAdd (dC (dI 1)) (dCall (dsp_law_drawn K) WD (dCons (dVar 1) (dCons (dC (dI 6)) dNil)))) dNil)))
  (t_law_18 K WD)))
  (t_law_19 K WD))

def t_law (K : PySem.W.Frag) (WD : XDW) : TDS := (dSeq (dAsg (dCall (dsp_law_start K) WD (dCons (dVar 0) dNil)) (gN 1))
  (t_law_20 K WD))

@[simp] theorem s_dLenSet (te : TDE) (δ : DSt) (G : GH) (Q : DK) : dLenSet te δ G Q = (te δ G fun d G1 => ∃ ns : List Int, d = .tup (ns.map dI) ∧ ns.length ≤ 4000 ∧ ∀ c, Diff ns c → Q (dI (c : Nat)) G1) := rfl
theorem dEq_ii (f : Bool → Bool) (a b : Int) (G : GH) (Q : DK) : dEqF f (dI a) (dI b) G Q = Q (dB (f (decide (a = b)))) G := rfl
def Sh (w : Addr) (δ : DSt) : Prop := ∃ x0 x2 x3 x4 x5 x6 x7 x8 x9 x10 x11 x12 x13 x14 x15 x16, δ = [x0, some (dR w), x2, x3, x4, x5, x6, x7, x8, x9, x10, x11, x12, x13, x14, x15, x16]
theorem cruel_at {r : Str} {size pages : Int} (hr : r ∈ ruleIx) (hs : 1 ≤ size ∧ size ≤ 6) (hp : size + 1 ≤ pages) {n i : Nat} (h : i < n) : (cruelF r size pages n).2[i]? = some (freeF (cruelF r size pages i).1 pages) := by
  have e1 := cruel_take (r := r) (size := size) (pages := pages) n (i + 1) (by omega) (cruel_ok hr hs hp n).2.1
  have e2 : (cruelF r size pages (i + 1)).2 = (cruelF r size pages i).2 ++ [freeF (cruelF r size pages i).1 pages] := rfl
  have e3 : ((cruelF r size pages n).2.take (i + 1))[i]? = (cruelF r size pages n).2[i]? := List.getElem?_take_of_lt (by omega)
  have hl := (cruel_ok hr hs hp i).2.1
  rw [← e3, e1, e2, List.getElem?_append_right (by omega), hl, Nat.sub_self]
  rfl
theorem inD_tupI (y : Int) (l : List Int) {f : Bool → Bool} {G : GH} {Q : DK} (q : Q (dB (f (decide (y ∈ l)))) G) : dInF f (dI y) (tupI l) G Q := by
  refine ⟨rfl, flat_ints _, ?_⟩
  rw [inD_ints]
  exact q
theorem filt_no {α : Type} (xs : List α) : xs.filter (fun _ => false) = [] := by
  rw [List.filter_eq_nil_iff]
  simp
section
variable {K : PySem.W.Frag} {G : GH} {w : Addr} {ps : List Int} {WD : XDW} {E : DEnds} {x0 x2 x5 x6 x7 x8 x9 x10 x11 x12 x13 x14 x15 x16 : Option D} {r : Str} {size pages : Int} {n : Nat}
theorem e3 (hr : r ∈ ruleIx) (hs : 1 ≤ size ∧ size ≤ 6) (hp : size + 1 ≤ pages) (hp10 : pages ≤ 10) (hn : n ≤ 60) (hw : G w = some (Wo K)) (fin : ∀ δ G', Sh w δ → G' w = some (Wo K) → E.nx δ G') :
    t_law_3 K WD E [x0, some (dR w), x2, some (dS r), some (dI size), x5, x6, x7, x8, x9, x10, x11, x12, x13, some (tupI (cruelF r size pages n).2), x15, x16] G := by
  obtain ⟨w1, w2, w3, w4, w5⟩ := cruel_ok (size := size) (pages := pages) hr hs hp n
  unfold t_law_3
  refine dfor_w ?_
  simp only [s_iRng1D, s_dBi, s_dLen, s_dCons, s_dNil, s_dVar, gs_0, gs_s]
  rw [List.length_map, w2]
  refine ⟨by omega, fun i δ' G' => (∃ x8 x15 x16, δ' = [x0, some (dR w), x2, some (dS r), some (dI size), x5, x6, x7, x8, x9, x10, x11, x12, x13, some (tupI (cruelF r size pages n).2), x15, x16]) ∧ G' w = some (Wo K), ⟨⟨_, _, _, rfl⟩, hw⟩, fun _ _ _ _ => trivial, ?_, ?_⟩
  · rintro i x δ' G' hx ⟨⟨x8, x15, x16, rfl⟩, hw⟩
    obtain ⟨hi, rfl⟩ := rgD_of hx
    have hi : i < n := by omega
    obtain ⟨v1, v2, v3, v4, v5⟩ := cruel_ok (size := size) (pages := pages) hr hs hp i
    obtain ⟨f1, f2, f3⟩ := free_ok v1.nd v1.len hp
    have etk := cruel_take (r := r) (size := size) (pages := pages) n i (by omega) w2
    simp only [s_gN, ss_0, ss_s, Int.zero_add, s_dSeq, s_dAsg, s_dOp, s_dCall, s_dCons, s_dNil, s_dVar, s_dC, s_dSl, s_dPart, s_dNoPart, gs_0, gs_s, cut_to]
    rw [← List.map_take, etk]
    refine ⟨r, size, (cruelF r size pages i).2, rfl, by omega, fun q hq => by have := v3 q hq; omega, hr, hs.1, hs.2, fun u hu => ?_⟩
    simp only [s_dIx]
    refine ⟨_, Cb.atI_nat (i := 2) rfl, ?_⟩
    rw [v4]
    have hw1 := (Le.new (m := .lst ((runG r size sta0 (cruelF r size pages i).2).1.map eAns)) hu) _ _ hw
    generalize gu G' u (.lst ((runG r size sta0 (cruelF r size pages i).2).1.map eAns)) = G1 at hw1
    unfold t_law_2
    simp only [s_dIfS, s_dTest, s_dOp]
    refine dlc_pure (rgD 0 (freeF (cruelF r size pages i).1 pages).toNat) id (fun _ => false) (fun R h => ?_) (by rw [rgD_len, zL_val]; omega) ?_ ?_
    · simp only [s_iRng1D, s_dOp, s_dCons, s_dNil, s_dVar, s_dIx, gs_0, gs_s]
      refine ⟨dI (freeF (cruelF r size pages i).1 pages), Cb.atI_nat (by rw [List.getElem?_map, cruel_at hr hs hp hi]; rfl), by omega, ?_⟩
      exact h _ fun _ _ _ => trivial
    · intro p hp0 x hx acc Qt Qf q1 q2
      obtain ⟨j, hj⟩ := List.mem_iff_getElem?.mp hx
      obtain ⟨hjl, rfl⟩ := rgD_of hj
      simp only [s_gN, wsAll_c, wsAll_n, ws_0, ws_s, ss_0, ss_s, s_dTest, s_dOp, s_dVar, gs_0, gs_s]
      refine inD_tupI _ _ ?_
      have hm : (0 + (j : Int)) ∈ sortI (pagesS (cruelF r size pages i).1) := (sortI_perm _).mem_iff.mpr (f3 _ (by omega) (by omega))
      rw [decide_eq_true hm]
      simp
      exact q2 rfl
    · intro p hp0
      rw [filt_no]
      simp only [List.map_nil, s_dLst, s_dNil]
      refine ⟨by simp, fun q hq => deq_nil (ps := []) (by rw [gu_ne (Ne.symm (gu_none hq).1)]; exact gu_same) gu_same ?_⟩
      have hw2 := ((Le.new (m := .lst ([] : List D)) hp0).trans (Le.new (m := .lst ([] : List D)) hq)) _ _ hw1
      exact ⟨fun h => by simp at h, fun _ => ⟨_, Ent.refl _, ⟨_, _, _, rfl⟩, hw2⟩⟩
  · rintro δ' G' ⟨⟨x8, x15, x16, rfl⟩, hw⟩
    exact fin _ _ ⟨_, _, _, _, _, _, _, _, _, _, _, _, _, _, _, _, rfl⟩ hw
theorem e4 (hr : r ∈ ruleIx) (hs : 1 ≤ size ∧ size ≤ 6) (hp : size + 1 ≤ pages) (hp10 : pages ≤ 10) (hn : n ≤ 60) (hw : G w = some (Wo K)) (fin : ∀ δ G', Sh w δ → G' w = some (Wo K) → E.nx δ G') :
    t_law_4 K WD E [x0, some (dR w), x2, some (dS r), some (dI size), x5, x6, x7, x8, x9, x10, x11, x12, some (dI pages), some (tupI (cruelF r size pages n).2), x15, x16] G := by
  obtain ⟨w1, w2, w3, w4, w5⟩ := cruel_ok (size := size) (pages := pages) hr hs hp n
  unfold t_law_4
  simp only [s_dSeq, s_dIfS, s_dOr, s_dTest, s_dOp, s_dCall, s_dBi, s_dLen, s_dCons, s_dNil, s_dVar, s_dC, gs_0, gs_s]
  refine ⟨r, size, (cruelF r size pages n).2, rfl, by omega, fun q hq => by have := w3 q hq; omega, hr, hs.1, hs.2, fun u hu => ?_⟩
  simp only [s_dIx]
  refine ⟨_, atI_z _ _, ?_⟩
  rw [w5]
  have hw1 := (Le.new (m := .lst ((runG r size sta0 (cruelF r size pages n).2).1.map eAns)) hu) _ _ hw
  generalize gu G u (.lst ((runG r size sta0 (cruelF r size pages n).2).1.map eAns)) = G1 at hw1
  simp only [dEq_ii, List.length_map, w2]
  refine ⟨fun h => by simp at h, fun _ => ?_⟩
  refine dlc_pure ((cruelF r size pages n).2.map dI) id (fun _ => false) (fun R h => ?_) (by rw [List.length_map, w2, zL_val]; omega) ?_ ?_
  · simp only [s_iSeqD, s_dVar, gs_0, gs_s]
    exact h _ fun _ _ _ => trivial
  · intro p hp0 x hx acc Qt Qf q1 q2
    obtain ⟨y, hy, rfl⟩ := List.mem_map.mp hx
    have := w3 y hy
    simp only [s_gN, wsAll_c, wsAll_n, ws_0, ws_s, ss_0, ss_s, s_dNot, s_dTest, s_dChain, s_dI0, s_dC, s_dVar, gs_0, gs_s]
    simp [this]
    exact q2 rfl
  · intro p hp0
    rw [filt_no]
    simp only [List.map_nil, s_dLst, s_dNil]
    refine ⟨by simp, fun q hq => deq_nil (ps := []) (by rw [gu_ne (Ne.symm (gu_none hq).1)]; exact gu_same) gu_same ?_⟩
    have hw2 := ((Le.new (m := .lst ([] : List D)) hp0).trans (Le.new (m := .lst ([] : List D)) hq)) _ _ hw1
    refine ⟨fun h => by simp at h, fun _ => ?_⟩
    exact e3 hr hs hp hp10 hn hw2 fin
theorem e5 (hr : r ∈ ruleIx) (hs : 1 ≤ size ∧ size ≤ 6) (hp : size + 1 ≤ pages) (hp10 : pages ≤ 10) (hw : G w = some (Wo K)) (fin : ∀ δ G', Sh w δ → G' w = some (Wo K) → E.nx δ G') :
    t_law_5 K WD E [x0, some (dR w), x2, some (dS r), some (dI size), x5, x6, x7, x8, x9, x10, x11, x12, some (dI pages), x14, x15, x16] G := by
  unfold t_law_5
  simp only [s_dSeq, s_dAsg, s_dCall, s_dCons, s_dNil, s_dVar, s_dC, gs_0, gs_s]
  refine ⟨w, 61, rfl, by omega, by omega, hw, fun n n0 n61 => ?_⟩
  obtain ⟨m, rfl⟩ := Int.eq_ofNat_of_zero_le n0
  refine ⟨r, size, pages, (m : Nat), rfl, hr, hs.1, hs.2, hp, hp10, n0, by omega, ?_⟩
  simp only [s_gN, ss_0, ss_s]
  exact e4 hr hs hp hp10 (by simp; omega) hw fin
theorem e6 (hr : r ∈ ruleIx) (hs : 1 ≤ size ∧ size ≤ 6) (hw : G w = some (Wo K)) (fin : ∀ δ G', Sh w δ → G' w = some (Wo K) → E.nx δ G') :
    t_law_6 K WD E [x0, some (dR w), x2, some (dS r), some (dI size), x5, x6, x7, x8, x9, x10, x11, x12, x13, x14, x15, x16] G := by
  unfold t_law_6
  simp only [s_dSeq, s_dAsg, s_dOp, s_dI0, s_dAdd, s_dCall, s_dCons, s_dNil, s_dVar, s_dC, gs_0, gs_s]
  refine ⟨w, 10 - size, rfl, by omega, by omega, hw, fun n n0 n1 => ?_⟩
  simp only [s_dAdd, s_gN, ss_0, ss_s]
  exact e5 hr hs (by omega) (by omega) hw fin
end

def Costs9 (l : List Int) : Prop := l.length = 10 ∧ ∀ c ∈ l, 1 ≤ c ∧ c ≤ 90
theorem costs_ok {l : List Int} (h : Costs9 l) : CostOk (some l) := fun l' e => by
  cases e
  exact ⟨h.1, fun c hc => by have := h.2 c hc; omega⟩
theorem cost_ge {l : List Int} (h : Costs9 l) {p : Int} (hp : 0 ≤ p ∧ p ≤ 9) : costF none p ≤ costF (some l) p := by
  show 1 ≤ l[p.toNat]?.getD 1
  rw [List.getElem?_eq_getElem (by rw [h.1]; omega)]
  exact (h.2 _ (List.getElem_mem _)).1
def More (a b : List Int) : Prop := ∀ (i : Nat) (x y : Int), a[i]? = some x → b[i]? = some y → x ≤ y
theorem cost_more {a b : List Int} (ha : Costs9 a) (hb : Costs9 b) (h : More a b) {p : Int} (hp : 0 ≤ p ∧ p ≤ 9) : costF (some a) p ≤ costF (some b) p := by
  show a[p.toNat]?.getD 1 ≤ b[p.toNat]?.getD 1
  have h1 : p.toNat < a.length := by rw [ha.1]; omega
  have h2 : p.toNat < b.length := by rw [hb.1]; omega
  have e1 := List.getElem?_eq_getElem h1
  have e2 := List.getElem?_eq_getElem h2
  rw [e1, e2]
  exact h _ _ _ e1 e2
section
variable {K : PySem.W.Frag} {G : GH} {w : Addr} {ps cs ms : List Int} {WD : XDW} {E : DEnds} {x0 x2 x5 x6 x7 x8 x9 x10 x11 x12 x13 x14 x15 x16 : Option D} {r : Str} {k : Nat} {total : Int} {best : List Int × Int}
theorem e7 (hr : r ∈ ruleIx) (hk : 1 ≤ k) (h6 : k ≤ 6) (hl : ps.length ≤ 60) (h9 : ∀ p ∈ ps, 0 ≤ p ∧ p ≤ 9) (hw : G w = some (Wo K)) (fin : ∀ δ G', Sh w δ → G' w = some (Wo K) → E.nx δ G') :
    t_law_7 K WD E [x0, some (dR w), x2, some (dS r), some (dI (k : Nat)), some (tupI ps), x6, x7, x8, x9, x10, x11, x12, x13, x14, x15, x16] G := by
  unfold t_law_7
  simp only [s_dSeq, s_dIfS, s_dAnd, s_dTest, s_dOp, s_dCall, s_dLenSet, s_dCons, s_dNil, s_dVar, s_dC, s_dI0, gs_0, gs_s]
  refine ⟨ps, rfl, by omega, fun c hc => ?_⟩
  have go : ∀ G', G' w = some (Wo K) → t_law_6 K WD E [x0, some (dR w), x2, some (dS r), some (dI (k : Nat)), some (tupI ps), x6, x7, x8, x9, x10, x11, x12, x13, x14, x15, x16] G' := fun G' hw => e6 hr ⟨by omega, by omega⟩ hw fin
  refine ⟨fun hck => ?_, fun _ => ⟨fun h => (by cases h), fun _ => go _ hw⟩⟩
  have hck : c ≤ k := by
    have : ((c : Int) ≤ (k : Nat)) := by simpa using hck
    omega
  refine ⟨r, _, ps, rfl, hl, h9, hr, by omega, by omega, fun u hu => ?_⟩
  simp only [s_dIx]
  refine ⟨_, atI_z _ _, ps, rfl, by omega, fun c2 hc2 => ?_⟩
  have e1 : missesL (runG r (k : Nat) sta0 ps).1 = c := rule_diff hr hk h6 hc hck
  have e2 : missesL (runG r (k : Nat) sta0 ps).1 = c2 := by
    have : c2 ≤ k := by
      obtain ⟨a, a1, a2, a3⟩ := hc
      obtain ⟨b, b1, b2, b3⟩ := hc2
      have := List.Nodup.length_le_of_subset b1 (l₂ := a) fun x hx => (a2 x).mpr ((b2 x).mp hx)
      omega
    exact rule_diff hr hk h6 hc2 this
  rw [e2]
  simp only [dEq_ii]
  refine ⟨fun h => by simp at h, fun _ => go _ (Le.new hu _ _ hw)⟩
theorem e8 (hr : r ∈ ruleIx) (hk : 1 ≤ k) (h6 : k ≤ 6) (hl : ps.length ≤ 60) (h9 : ∀ p ∈ ps, 0 ≤ p ∧ p ≤ 9) (hc : Costs9 cs) (hm : Costs9 ms) (hcm : More cs ms) (mb : ∀ q ∈ worksF (k : Nat) none ps, best.2 ≤ q.2)
    (hw : G w = some (Wo K)) (fin : ∀ δ G', Sh w δ → G' w = some (Wo K) → E.nx δ G') :
    t_law_8 K WD E [x0, some (dR w), x2, some (dS r), some (dI (k : Nat)), some (tupI ps), some (dI best.2), x7, x8, x9, some (tupI cs), some (tupI ms), x12, x13, x14, x15, x16] G := by
  unfold t_law_8
  simp only [s_dSeq, s_dIfS, s_dNot, s_dTest, s_dOp, s_dChain, s_dCallK, s_dCons, s_dNil, s_dVar, s_dC, s_dI0, gs_0, gs_s]
  refine ⟨rfl, rfl, _, ps, some cs, rfl, by omega, by omega, hl, h9, costs_ok hc, fun a q0 gs ha ma tr p hp => ?_⟩
  simp only [s_dIx]
  refine ⟨_, atI_z _ _, ?_⟩
  have h1 : best.2 ≤ a.2 := best_costs (cs := none) (cs' := some cs) (fun p hp => cost_ge hc (h9 p hp)) mb ha
  simp only [decide_eq_true h1]
  refine ⟨fun _ => ?_, fun h => by simp at h⟩
  refine ⟨rfl, rfl, _, ps, some ms, rfl, by omega, by omega, hl, h9, costs_ok hm, fun b q1 gs1 hb mb2 tr1 p1 hp1 => ?_⟩
  refine ⟨_, atI_z _ _, ?_⟩
  have h2 : a.2 ≤ b.2 := best_costs (cs := some cs) (cs' := some ms) (fun p hp => cost_more hc hm hcm (h9 p hp)) ma hb
  simp only [decide_eq_true h2]
  refine ⟨fun h => by simp at h, fun _ => e7 hr hk h6 hl h9 (Le.new hp1 _ _ (Le.new hp _ _ hw)) fin⟩
end

section
variable {K : PySem.W.Frag} {G : GH} {w : Addr} {ps cs ms : List Int} {WD : XDW} {E : DEnds} {x0 x2 x5 x6 x7 x8 x9 x10 x11 x12 x13 x14 x15 x16 : Option D} {r : Str} {k : Nat} {total : Int} {best : List Int × Int}
theorem app_at {α : Type} {l : List α} {x y : α} {j : Nat} (h : (l ++ [x])[j]? = some y) : l[j]? = some y ∨ (j = l.length ∧ y = x) := by
  by_cases hj : j < l.length
  · rw [List.getElem?_append_left hj] at h; exact .inl h
  · have hj2 := (List.getElem?_eq_some_iff.mp h).1
    rw [List.length_append, List.length_singleton] at hj2
    have e : j = l.length := by omega
    subst e
    rw [List.getElem?_append_right (Nat.le_refl _), Nat.sub_self] at h
    exact .inr ⟨rfl, (Option.some.inj h).symm⟩
theorem e9 (hr : r ∈ ruleIx) (hk : 1 ≤ k) (h6 : k ≤ 6) (hl : ps.length ≤ 60) (h9 : ∀ p ∈ ps, 0 ≤ p ∧ p ≤ 9) (hc : Costs9 cs) (hc9 : ∀ c ∈ cs, c ≤ 9) (mb : ∀ q ∈ worksF (k : Nat) none ps, best.2 ≤ q.2)
    (hw : G w = some (Wo K)) (fin : ∀ δ G', Sh w δ → G' w = some (Wo K) → E.nx δ G') :
    t_law_9 K WD E [x0, some (dR w), x2, some (dS r), some (dI (k : Nat)), some (tupI ps), some (dI best.2), x7, x8, x9, some (tupI cs), x11, x12, x13, x14, x15, x16] G := by
  unfold t_law_9
  simp only [s_dSeq, s_dAsg, s_dBi, s_dCons, s_dNil]
  refine dlc_w ?_
  simp only [s_iSeqD, s_dVar, gs_0, gs_s]
  intro p hp
  have pw : p ≠ w := fun e => by rw [e, hw] at hp; cases hp
  refine ⟨fun i G' => ∃ acc : List Int, acc.length = i ∧ More cs acc ∧ (∀ c ∈ acc, 1 ≤ c ∧ c ≤ 90) ∧ G' = gu G p (.lst (acc.map dI)), ⟨[], rfl, (fun i x y _ h => by simp at h), by simp, rfl⟩, fun _ _ _ => trivial, ?_, ?_⟩
  · rintro i x G' hx ⟨acc, h1, h2, h3, rfl⟩
    obtain ⟨c, hci, rfl⟩ := ints_get hx
    have hcm := List.mem_of_getElem? hci
    have hil := (List.getElem?_eq_some_iff.mp hci).1
    have := hc.1
    simp only [s_gN, wsAll_c, wsAll_n, ws_0, ws_s, ss_0, ss_s, s_dYes, s_dOp, s_dCall, s_dCons, s_dNil, s_dVar, s_dC, gs_0, gs_s]
    refine ⟨fun _ => ?_, fun h => (by cases h)⟩
    refine ⟨w, 3, rfl, by omega, by omega, by rw [gu_ne (Ne.symm pw)]; exact hw, fun n n0 n3 => ?_⟩
    simp only [s_dAdd]
    refine ⟨_, gu_same, by rw [List.length_map, zL_val]; omega, _, ?_, acc ++ [c + n], by rw [List.length_append, h1]; rfl, fun j x y hx hy => ?_, fun z hz => ?_, rfl⟩
    · rw [gu_gu, List.map_append]
      exact Ent.refl _
    · rcases app_at hy with h | ⟨rfl, rfl⟩
      · exact h2 j x y hx h
      · rw [h1] at hx
        rw [hci] at hx
        cases hx
        omega
    · rcases List.mem_append.mp hz with h | h
      · exact h3 z h
      · rw [List.mem_singleton.mp h]
        have := hc.2 c hcm
        have := hc9 c hcm
        omega
  · rintro G' ⟨acc, h1, h2, h3, rfl⟩
    rw [List.length_map, hc.1] at h1
    simp only [s_dTuple, s_gN, ss_0, ss_s]
    refine ⟨_, gu_same, ?_⟩
    exact e8 hr hk h6 hl h9 hc ⟨h1, h3⟩ h2 mb (by rw [gu_ne (Ne.symm pw)]; exact hw) fin
theorem e10 (hr : r ∈ ruleIx) (hk : 1 ≤ k) (h6 : k ≤ 6) (hl : ps.length ≤ 60) (h9 : ∀ p ∈ ps, 0 ≤ p ∧ p ≤ 9) (mb : ∀ q ∈ worksF (k : Nat) none ps, best.2 ≤ q.2)
    (hw : G w = some (Wo K)) (fin : ∀ δ G', Sh w δ → G' w = some (Wo K) → E.nx δ G') :
    t_law_10 K WD E [x0, some (dR w), x2, some (dS r), some (dI (k : Nat)), some (tupI ps), some (dI best.2), x7, x8, x9, x10, x11, x12, x13, x14, x15, x16] G := by
  unfold t_law_10
  simp only [s_dSeq, s_dAsg, s_dBi, s_dCons, s_dNil]
  refine dlc_w ?_
  simp only [s_iRng1D, s_dCons, s_dNil, s_dC]
  refine ⟨by decide, ?_⟩
  intro p hp
  have pw : p ≠ w := fun e => by rw [e, hw] at hp; cases hp
  refine ⟨fun i G' => ∃ acc : List Int, acc.length = i ∧ (∀ c ∈ acc, 1 ≤ c ∧ c ≤ 9) ∧ G' = gu G p (.lst (acc.map dI)), ⟨[], rfl, by simp, rfl⟩, fun _ _ _ => trivial, ?_, ?_⟩
  · rintro i x G' hx ⟨acc, h1, h3, rfl⟩
    obtain ⟨hi, rfl⟩ := rgD_of hx
    simp only [s_gN, wsAll_c, wsAll_n, ws_0, ws_s, ss_0, ss_s, s_dYes, s_dOp, s_dCall, s_dCons, s_dNil, s_dVar, s_dC, gs_0, gs_s]
    refine ⟨fun _ => ?_, fun h => (by cases h)⟩
    refine ⟨w, 9, rfl, by omega, by omega, by rw [gu_ne (Ne.symm pw)]; exact hw, fun n n0 n3 => ?_⟩
    simp only [s_dAdd]
    have hi : i < 10 := hi
    refine ⟨_, gu_same, by rw [List.length_map, zL_val]; omega, _, ?_, acc ++ [1 + n], by rw [List.length_append, h1]; rfl, fun z hz => ?_, rfl⟩
    · rw [gu_gu, List.map_append]
      exact Ent.refl _
    · rcases List.mem_append.mp hz with h | h
      · exact h3 z h
      · rw [List.mem_singleton.mp h]
        omega
  · rintro G' ⟨acc, h1, h3, rfl⟩
    rw [rgD_len] at h1
    simp only [s_dTuple, s_gN, ss_0, ss_s]
    refine ⟨_, gu_same, ?_⟩
    exact e9 hr hk h6 hl h9 ⟨h1, fun c hc => by have := h3 c hc; omega⟩ (fun c hc => (h3 c hc).2) mb (by rw [gu_ne (Ne.symm pw)]; exact hw) fin
theorem cut_nat (xs : List Int) (i : Int) (h : 0 ≤ i) : cutD (xs.map dI) none (some i) = (xs.take i.toNat).map dI := by
  obtain ⟨n, rfl⟩ := Int.eq_ofNat_of_zero_le h
  rw [List.map_take]
  exact cut_to _ n
theorem e11 (hr : r ∈ ruleIx) (hk : 1 ≤ k) (h6 : k ≤ 6) (hl : ps.length ≤ 60) (h9 : ∀ p ∈ ps, 0 ≤ p ∧ p ≤ 9) (mb : ∀ q ∈ worksF (k : Nat) none ps, best.2 ≤ q.2)
    (hw : G w = some (Wo K)) (fin : ∀ δ G', Sh w δ → G' w = some (Wo K) → E.nx δ G') :
    t_law_11 K WD E [x0, some (dR w), x2, some (dS r), some (dI (k : Nat)), some (tupI ps), some (dI best.2), x7, x8, x9, x10, x11, x12, x13, x14, x15, x16] G := by
  unfold t_law_11
  rw [s_dSeq]
  refine dfor_w ?_
  simp only [s_iRng2D, s_dBi, s_dTwo, s_dLen, s_dOp, s_dI0, s_dCons, s_dNil, s_dVar, s_dC, gs_0, gs_s, List.length_map]
  generalize hlo : (if ((ps.length : Nat) : Int) - 4 > 0 then ((ps.length : Nat) : Int) - 4 else 0) = lo
  have hlo0 : 0 ≤ lo ∧ lo ≤ (ps.length : Nat) := by rw [← hlo]; split <;> omega
  refine ⟨by omega, fun i δ' G' => (∃ x8 x9, δ' = [x0, some (dR w), x2, some (dS r), some (dI (k : Nat)), some (tupI ps), some (dI best.2), x7, x8, x9, x10, x11, x12, x13, x14, x15, x16]) ∧ G' w = some (Wo K), ⟨⟨_, _, rfl⟩, hw⟩, fun _ _ _ _ => trivial, ?_, ?_⟩
  · rintro i x δ' G' hx ⟨⟨x8, x9, rfl⟩, hw⟩
    obtain ⟨hi, rfl⟩ := rgD_of hx
    obtain ⟨j, hj⟩ := Int.eq_ofNat_of_zero_le (a := lo + (i : Int)) (by omega)
    have hjl : j < ps.length := by omega
    rw [hj]
    have p9 : ∀ n, ∀ p ∈ ps.take n, 0 ≤ p ∧ p ≤ 9 := fun n p hp => h9 p (List.mem_of_mem_take hp)
    have pl : ∀ n, (ps.take n).length ≤ 60 := fun n => by rw [List.length_take]; omega
    simp only [s_gN, ss_0, ss_s, s_dSeq, s_dAsg, s_dOp, s_dCallD, s_dCons, s_dNil, s_dVar, s_dC, s_dSl, s_dPart, s_dNoPart, gs_0, gs_s]
    rw [cut_nat _ _ (by omega)]
    refine ⟨_, ps.take j, none, rfl, by omega, by omega, pl j, p9 j, (fun l e => by cases e), fun a q0 gs ha ma tr p hp => ?_⟩
    simp only [s_dIx]
    refine ⟨_, atI_z _ _, ?_⟩
    have hw1 := Le.new (m := .lst (gs.map eOpt)) hp _ _ hw
    generalize gu G' p (.lst (gs.map eOpt)) = G1 at hw1
    unfold t_law_1
    simp only [s_dIfS, s_dNot, s_dTest, s_dChain, s_dOp, s_dCallD, s_dCons, s_dNil, s_dVar, s_dC, s_dSl, s_dPart, s_dNoPart, s_dAdd, s_dI0, gs_0, gs_s]
    rw [cut_nat _ _ (by omega)]
    have e1 : ((j : Nat) + 1 : Int).toNat = j + 1 := by omega
    rw [e1]
    refine ⟨_, ps.take (j + 1), none, rfl, by omega, by omega, pl _, p9 _, (fun l e => by cases e), fun b q1 gs1 hb mb1 tr1 p1 hp1 => ?_⟩
    simp only [s_dIx]
    refine ⟨_, atI_z _ _, ?_⟩
    have e2 : ps.take (j + 1) = ps.take j ++ [ps[j]] := by rw [List.take_add_one, List.getElem?_eq_getElem hjl]; rfl
    rw [e2] at hb mb1
    obtain ⟨b1, b2⟩ := best_on (size := (k : Nat)) (by omega) ha ma hb mb1
    have c1 : 0 ≤ b.2 - a.2 := by omega
    have c2 : b.2 - a.2 ≤ 1 := by omega
    simp only [decide_eq_true c1, decide_eq_true c2]
    refine ⟨fun _ => ?_, fun h => (by simp at h)⟩
    refine ⟨fun h => (by simp at h), fun _ => ?_⟩
    exact ⟨_, Ent.refl _, ⟨_, _, rfl⟩, Le.new hp1 _ _ hw1⟩
  · rintro δ' G' ⟨⟨x8, x9, rfl⟩, hw⟩
    exact e10 hr hk h6 hl h9 mb hw fin
theorem e12 (hr : r ∈ ruleIx) (hk : 1 ≤ k) (h6 : k ≤ 6) (hl : ps.length ≤ 60) (h9 : ∀ p ∈ ps, 0 ≤ p ∧ p ≤ 9) (hb : best ∈ worksF (k : Nat) none ps) (mb : ∀ q ∈ worksF (k : Nat) none ps, best.2 ≤ q.2)
    (hw : G w = some (Wo K)) (fin : ∀ δ G', Sh w δ → G' w = some (Wo K) → E.nx δ G') :
    t_law_12 K WD E [x0, some (dR w), x2, some (dS r), some (dI (k : Nat)), some (tupI ps), some (dI best.2), x7, x8, x9, x10, x11, x12, x13, x14, x15, x16] G := by
  unfold t_law_12
  simp only [s_dSeq, s_dIfS, s_dAnd, s_dTest, s_dOp, s_dCallD, s_dCons, s_dNil, s_dVar, s_dC, s_dI0, s_dAdd, gs_0, gs_s]
  refine ⟨fun hk6 => ?_, fun _ => ⟨fun h => (by cases h), fun _ => e11 hr hk h6 hl h9 mb hw fin⟩⟩
  have hk6 : k < 6 := by
    have : ((k : Nat) : Int) < 6 := by simpa using hk6
    omega
  have ek : ((k : Nat) : Int) + 1 = ((k + 1 : Nat) : Int) := by omega
  refine ⟨_, ps, none, rfl, by omega, by omega, hl, h9, (fun l e => by cases e), fun a q0 gs ha ma tr p hp => ?_⟩
  simp only [s_dIx]
  refine ⟨_, atI_z _ _, ?_⟩
  rw [ek] at ma
  have h1 : a.2 ≤ best.2 := best_more hk h9 hb ma
  have h2 : ¬ best.2 < a.2 := by omega
  simp only [decide_eq_false h2]
  exact ⟨fun h => (by cases h), fun _ => e11 hr hk h6 hl h9 mb (Le.new hp _ _ hw) fin⟩
end

section
variable {K : PySem.W.Frag} {G : GH} {w : Addr} {ps cs ms : List Int} {WD : XDW} {E : DEnds} {x0 x2 x3 x4 x5 x6 x7 x8 x9 x10 x11 x12 x13 x14 x15 x16 : Option D} {r : Str} {k : Nat} {total : Int} {best : List Int × Int}
def usedL (ps : List Int) : List Int := (List.range 6).map fun (i : Nat) => ((missN "used" ((i : Int) + 1) ps : Nat) : Int)
theorem used_step (ps : List Int) {i : Nat} (hi : i < 5) : missN "used" ((i : Int) + 1 + 1) ps ≤ missN "used" ((i : Int) + 1) ps := by
  have := (stack_sub (r := "used") (k := i + 1) (.inl rfl) (by omega) (by omega) ps).2
  have e1 : ((i + 1 + 1 : Nat) : Int) = (i : Int) + 1 + 1 := by omega
  have e2 : ((i + 1 : Nat) : Int) = (i : Int) + 1 := by omega
  rw [e1, e2] at this
  exact this
theorem used_down (ps : List Int) : (usedL ps).Pairwise (fun a b => b ≤ a) := by
  have h0 := used_step ps (i := 0) (by omega)
  have h1 := used_step ps (i := 1) (by omega)
  have h2 := used_step ps (i := 2) (by omega)
  have h3 := used_step ps (i := 3) (by omega)
  have h4 := used_step ps (i := 4) (by omega)
  have e : usedL ps = [((missN "used" (0 + 1) ps : Nat) : Int), ((missN "used" (1 + 1) ps : Nat) : Int), ((missN "used" (2 + 1) ps : Nat) : Int), ((missN "used" (3 + 1) ps : Nat) : Int), ((missN "used" (4 + 1) ps : Nat) : Int), ((missN "used" (5 + 1) ps : Nat) : Int)] := rfl
  rw [e]
  have a0 : missN "used" (0 + 1 + 1) ps = missN "used" (1 + 1) ps := rfl
  have a1 : missN "used" (1 + 1 + 1) ps = missN "used" (2 + 1) ps := rfl
  have a2 : missN "used" (2 + 1 + 1) ps = missN "used" (3 + 1) ps := rfl
  have a3 : missN "used" (3 + 1 + 1) ps = missN "used" (4 + 1) ps := rfl
  have a4 : missN "used" (4 + 1 + 1) ps = missN "used" (5 + 1) ps := rfl
  simp only [List.pairwise_cons, List.mem_cons, List.not_mem_nil, or_false, forall_eq_or_imp, forall_eq]
  simp at h0 h1 h2 h3 h4
  simp
  omega
theorem e13 {u : Addr} (hr : r ∈ ruleIx) (hk : 1 ≤ k) (h6 : k ≤ 6) (hl : ps.length ≤ 60) (h9 : ∀ p ∈ ps, 0 ≤ p ∧ p ≤ 9) (hb : best ∈ worksF (k : Nat) none ps) (mb : ∀ q ∈ worksF (k : Nat) none ps, best.2 ≤ q.2)
    (hw : G w = some (Wo K)) (hu : G u = some (.lst ((usedL ps).map dI))) (fin : ∀ δ G', Sh w δ → G' w = some (Wo K) → E.nx δ G') :
    t_law_13 K WD E [x0, some (dR w), x2, some (dS r), some (dI (k : Nat)), some (tupI ps), some (dI best.2), some (dR u), x8, x9, x10, x11, x12, x13, x14, x15, x16] G := by
  unfold t_law_13
  simp only [s_dSeq, s_dIfS, s_dOr, s_dTest, s_dOp, s_dBi, s_dCons, s_dNil, s_dVar, s_dC, gs_0, gs_s]
  show dRev _ _ _ _
  unfold dRev
  simp only [s_dBi, s_dCons, s_dNil, s_dVar, gs_0, gs_s]
  refine sort_ints hu fun a ha => ?_
  have ua : u ≠ a := fun e => by rw [← e, hu] at ha; cases ha
  refine ⟨_, gu_same, fun b hb2 => ?_⟩
  obtain ⟨ba, hb3⟩ := gu_none hb2
  have ub : u ≠ b := fun e => by rw [← e, hu] at hb3; cases hb3
  have hle := (Le.new (m := .lst ((sortI (usedL ps)).map dI)) ha).trans (Le.new (m := .lst (((sortI (usedL ps)).map dI).reverse)) hb2)
  have hu1 := hle _ _ hu
  have hw1 := hle _ _ hw
  have hb1 : gu (gu G a (.lst ((sortI (usedL ps)).map dI))) b (.lst (((sortI (usedL ps)).map dI).reverse)) b = some (.lst ((usedL ps).map dI)) := by
    rw [gu_same, ← List.map_reverse, sort_down (used_down ps)]
  generalize gu (gu G a (.lst ((sortI (usedL ps)).map dI))) b (.lst (((sortI (usedL ps)).map dI).reverse)) = G1 at hu1 hw1 hb1
  refine deq_ll hu1 hb1 ?_
  refine ⟨fun h => (by simp at h), fun _ => ?_⟩
  simp only [s_dI0, s_dIx]
  obtain ⟨j, rfl⟩ : ∃ j, k = j + 1 := ⟨k - 1, by omega⟩
  have ej : ((j + 1 : Nat) : Int) - 1 = (j : Nat) := by omega
  rw [ej]
  refine ⟨_, dI (missN "used" ((j : Int) + 1) ps : Nat), hu1, Cb.atI_nat (by
    unfold usedL
    rw [List.map_map, List.getElem?_map, List.getElem?_range (by omega)]; rfl), ?_⟩
  simp only [s_dCall, s_dCons, s_dNil, s_dVar, s_dC, gs_0, gs_s]
  refine ⟨_, _, ps, rfl, hl, h9, by decide, by omega, by omega, fun v hv => ?_⟩
  refine ⟨_, atI_z _ _, ?_⟩
  have e2 : missesL (runG (Str.ofString "used") ((j + 1 : Nat) : Int) sta0 ps).1 = missN "used" ((j : Int) + 1) ps := rfl
  rw [e2]
  simp only [dEq_ii]
  exact ⟨fun h => (by simp at h), fun _ => e12 hr hk h6 hl h9 hb mb (Le.new hv _ _ hw1) fin⟩
theorem e14 (hr : r ∈ ruleIx) (hk : 1 ≤ k) (h6 : k ≤ 6) (hl : ps.length ≤ 60) (h9 : ∀ p ∈ ps, 0 ≤ p ∧ p ≤ 9) (hb : best ∈ worksF (k : Nat) none ps) (mb : ∀ q ∈ worksF (k : Nat) none ps, best.2 ≤ q.2)
    (hw : G w = some (Wo K)) (fin : ∀ δ G', Sh w δ → G' w = some (Wo K) → E.nx δ G') :
    t_law_14 K WD E [x0, some (dR w), x2, some (dS r), some (dI (k : Nat)), some (tupI ps), some (dI best.2), x7, x8, x9, x10, x11, x12, x13, x14, x15, x16] G := by
  unfold t_law_14
  simp only [s_dSeq, s_dAsg, s_dCall, s_dCons, s_dNil, s_dVar, s_dC, gs_0, gs_s]
  refine ⟨_, ps, _, rfl, hl, h9, by decide, by omega, by omega, fun u hu => ?_⟩
  simp only [s_gN, ss_0, ss_s]
  have e : ((List.range (6 : Int).toNat).map fun (i : Nat) => dI (missN (Str.ofString "used") (i + 1) ps)) = (usedL ps).map dI := by
    unfold usedL
    rw [List.map_map]
    rfl
  rw [e]
  exact e13 hr hk h6 hl h9 hb mb (Le.new hu _ _ hw) gu_same fin
theorem e15 (hr : r ∈ ruleIx) (hk : 1 ≤ k) (h6 : k ≤ 6) (hl : ps.length ≤ 60) (h9 : ∀ p ∈ ps, 0 ≤ p ∧ p ≤ 9) (hb : best ∈ worksF (k : Nat) none ps) (mb : ∀ q ∈ worksF (k : Nat) none ps, best.2 ≤ q.2)
    (hw : G w = some (Wo K)) (fin : ∀ δ G', Sh w δ → G' w = some (Wo K) → E.nx δ G') :
    t_law_15 K WD E [x0, some (dR w), x2, some (dS r), some (dI (k : Nat)), some (tupI ps), some (dI best.2), x7, x8, x9, x10, x11, x12, x13, x14, x15, x16] G := by
  unfold t_law_15
  simp only [s_dSeq, s_dIfS, s_dOr, s_dTest, s_dOp, s_dI0, s_dBi, s_dLen, s_dLenSet, s_dCons, s_dNil, s_dVar, s_dC, gs_0, gs_s]
  refine ⟨ps, rfl, by omega, fun c hc => ?_⟩
  have h1 := best_diff hk h9 hb hc
  have h2 := best_rngS hb
  have n1 : ¬ best.2 < (c : Int) := by omega
  have n2 : ¬ ((ps.map dI).length : Int) < best.2 := by rw [List.length_map]; omega
  simp only [decide_eq_false n1, decide_eq_false n2]
  exact ⟨fun h => (by cases h), fun _ => ⟨fun h => (by cases h), fun _ => e14 hr hk h6 hl h9 hb mb hw fin⟩⟩
theorem e16 (hr : r ∈ ruleIx) (hk : 1 ≤ k) (h6 : k ≤ 6) (hl : ps.length ≤ 60) (h9 : ∀ p ∈ ps, 0 ≤ p ∧ p ≤ 9) (hb : best ∈ worksF (k : Nat) none ps) (mb : ∀ q ∈ worksF (k : Nat) none ps, best.2 ≤ q.2)
    (hw : G w = some (Wo K)) (fin : ∀ δ G', Sh w δ → G' w = some (Wo K) → E.nx δ G') :
    t_law_16 K WD E [x0, some (dR w), x2, some (dS r), some (dI (k : Nat)), some (tupI ps), some (dI best.2), x7, x8, x9, x10, x11, x12, x13, x14, x15, x16] G := by
  unfold t_law_16
  simp only [s_dSeq, s_dIfS, s_dOr, s_dTest, s_dOp, s_dCall, s_dCons, s_dNil, s_dVar, s_dC, gs_0, gs_s]
  refine ⟨r, _, ps, rfl, hl, h9, hr, by omega, by omega, fun u hu => ?_⟩
  simp only [s_dIx]
  refine ⟨_, atI_z _ _, ?_⟩
  have h1 := rule_best hr hk h6 h9 mb
  have n1 : ¬ ((missesL (runG r (k : Nat) sta0 ps).1 : Nat) : Int) < best.2 := by
    have : best.2 ≤ ((missesL (runG r (k : Nat) sta0 ps).1 : Nat) : Int) := h1
    omega
  simp only [s_dI0, decide_eq_false n1]
  have hw1 := Le.new (m := .lst ((runG r (k : Nat) sta0 ps).1.map eAns)) hu _ _ hw
  generalize gu G u (.lst ((runG r (k : Nat) sta0 ps).1.map eAns)) = G1 at hw1
  refine ⟨fun h => (by cases h), fun _ => ?_⟩
  refine ⟨_, ps, rfl, by omega, by omega, hl, h9, fun v hv => ?_⟩
  refine ⟨_, atI_z _ _, ?_⟩
  have h2 := far_best hk h9 hb mb
  unfold farM at h2
  rw [← h2]
  simp only [dEq_ii]
  exact ⟨fun h => (by simp at h), fun _ => e15 hr hk h6 hl h9 hb mb (Le.new hv _ _ hw1) fin⟩
theorem e17 (hr : r ∈ ruleIx) (hk : 1 ≤ k) (h6 : k ≤ 6) (hl : ps.length ≤ 60) (h9 : ∀ p ∈ ps, 0 ≤ p ∧ p ≤ 9)
    (hw : G w = some (Wo K)) (fin : ∀ δ G', Sh w δ → G' w = some (Wo K) → E.nx δ G') :
    t_law_17 K WD E [x0, some (dR w), x2, some (dS r), some (dI (k : Nat)), some (tupI ps), x6, x7, x8, x9, x10, x11, x12, x13, x14, x15, x16] G := by
  unfold t_law_17
  simp only [s_dSeq, s_dAsg, s_dOp, s_dCallD, s_dCons, s_dNil, s_dVar, s_dC, gs_0, gs_s]
  refine ⟨_, ps, none, rfl, by omega, by omega, hl, h9, (fun l e => by cases e), fun a q0 gs ha ma tr p hp => ?_⟩
  simp only [s_dIx]
  refine ⟨_, atI_z _ _, ?_⟩
  simp only [s_gN, ss_0, ss_s]
  exact e16 hr hk h6 hl h9 ha ma (Le.new hp _ _ hw) fin
theorem e18 (hr : r ∈ ruleIx) (hk : 1 ≤ k) (h6 : k ≤ 6) (hw : G w = some (Wo K)) (fin : ∀ δ G', Sh w δ → G' w = some (Wo K) → E.nx δ G') :
    t_law_18 K WD E [x0, some (dR w), x2, some (dS r), some (dI (k : Nat)), x5, x6, x7, x8, x9, x10, x11, x12, x13, x14, x15, x16] G := by
  unfold t_law_18
  rw [s_dSeq, s_dAsg]
  simp only [s_dCall, s_dOp, s_dLst, s_dCons, s_dNil, s_dVar, s_dC, gs_0, gs_s]
  refine ⟨w, 5, rfl, by omega, by omega, hw, fun n n0 n5 => ?_⟩
  simp only [s_dAdd]
  refine ⟨by simp, fun p hp => ?_⟩
  have hle := Le.new (G := G) (m := .lst [dI 15, dI 40]) hp
  refine ⟨w, 2, rfl, by omega, by omega, hle _ _ hw, fun j j0 j2 => ?_⟩
  simp only [s_dIx]
  obtain ⟨d, hd1, hd⟩ : ∃ d, atI [dI 15, dI 40] j = some d ∧ (d = dI 15 ∨ d = dI 40) := two_at j0 j2 fun d h => h
  refine ⟨_, d, gu_same, hd1, ?_⟩
  have hd : ∃ m : Int, d = dI m ∧ 0 ≤ m ∧ m ≤ 40 := by
    rcases hd with rfl | rfl
    · exact ⟨15, rfl, by omega, by omega⟩
    · exact ⟨40, rfl, by omega, by omega⟩
  obtain ⟨m, rfl, m0, m40⟩ := hd
  refine ⟨w, 2 + n, m, rfl, by omega, by omega, by omega, by omega, hle _ _ hw, fun ps hpl hps => ?_⟩
  simp only [s_gN, ss_0, ss_s]
  exact e17 hr hk h6 (by omega) (fun q hq => by have := hps q hq; omega) (hle _ _ hw) fin
theorem e20 (hw : G w = some (Wo K)) (fin : ∀ G', E.rt (dB true) G') : t_law_20 K WD E [x0, some (dR w), x2, x3, x4, x5, x6, x7, x8, x9, x10, x11, x12, x13, x14, x15, x16] G := by
  unfold t_law_20
  rw [s_dSeq]
  refine dfor_w ?_
  simp only [s_iRng1D, s_dCons, s_dC, s_dNil]
  refine ⟨by decide, fun i δ' G' => Sh w δ' ∧ G' w = some (Wo K), ⟨⟨_, _, _, _, _, _, _, _, _, _, _, _, _, _, _, _, rfl⟩, hw⟩, fun _ _ _ _ => trivial, ?_, ?_⟩
  · rintro i x δ' G' hx ⟨⟨y0, y2, y3, y4, y5, y6, y7, y8, y9, y10, y11, y12, y13, y14, y15, y16, rfl⟩, hw⟩
    simp only [s_gN, ss_0, ss_s, s_dSeq, s_dPar, s_dOp, s_dCall, s_dCons, s_dNil, s_dVar, s_dC, gs_0, gs_s]
    refine ⟨w, rfl, hw, fun r hr => ?_⟩
    refine ⟨w, 6, rfl, by omega, by omega, hw, fun m m0 m6 => ?_⟩
    simp only [s_dAdd]
    obtain ⟨j, rfl⟩ := Int.eq_ofNat_of_zero_le m0
    have e : (1 : Int) + (j : Nat) = ((j + 1 : Nat) : Int) := by omega
    rw [e]
    exact e18 hr (by omega) (by omega) hw fun δ G2 h1 h2 => ⟨_, Ent.refl _, h1, h2⟩
  · rintro δ' G' ⟨⟨y0, y2, y3, y4, y5, y6, y7, y8, y9, y10, y11, y12, y13, y14, y15, y16, rfl⟩, hw⟩
    unfold t_law_19
    simp only [s_dRet, s_dC]
    exact fin _
end
theorem len_law {ds : List D} {G : GH} {Q : DK} {E : XD} (h : dspLaw ds G Q E) : ds.length = ps_law.length := by
  obtain ⟨_, rfl, _⟩ := h; rfl
theorem pure_law {K : PySem.W.Frag} {ds : List D} {G : GH} {QD : DK} {ED : XD} (h : dspLaw ds G QD ED) : t_law K (excD K ED) (retD K QD) (startD N_law ds) G := by
  obtain ⟨ns, rfl, hl, rfl, hQ⟩ := h
  simp [t_law]
  refine ⟨ns, rfl, hl, fun w hw => ?_⟩
  simp
  exact e20 gu_same fun G' => ⟨G', Ent.refl _, hQ G'⟩

end K03
set_option Elab.async false
set_option linter.all false
set_option maxRecDepth 100000
set_option maxHeartbeats 0
namespace K03
open PySem PySem.Spec PyProof.Rows L2 Dl Cb
theorem Names.intro_ {X : Cx} {x : Str} {c : Value} (a : Gl X x) (b : (x == ("__debug__" : Str)) = false) (h : X.mg x = some c) : Names X x c := ⟨a, b, .inl h⟩
theorem exAt {l : List Bool} (h : l.all id = true) (i : Nat) {b : Bool} (e : l[i]? = some b) : b = true := List.all_eq_true.mp h b (List.mem_of_getElem? e)
section
variable {P : Program} {w : World} {K : PySem.W.Frag} {mg : Str → Option Value} {base : Heap}
theorem tup_RULES (c : Fx fa fn ex K mg) : He.tupB K "RULES" [.str "came", .str "used", .str "last", .str "often", .str "clock", .str "high"] = true := exAt c.more 0 rfl
theorem dv_is_number (c : Fx fa fn ex K mg) {qual : Str} {f : Addr} {cdv : Value} {A : Around} {outer : List Env} {s : Shared} {H B : Hp} {E : XK} {WD : XDW} (hr : Room 0 (A.deeper (envOfC qual (defScope s_is_number) s.heap.objs.size f cdv))) (hx : XOk (cxOf (L2.CX P w) P w K mg base N_is_number qual (defScope s_is_number) f cdv A outer s H E) B WD) :
    DSs (cxOf (L2.CX P w) P w K mg base N_is_number qual (defScope s_is_number) f cdv A outer s H E) B (defBody s_is_number) (t_is_number K WD) := by
  refine dss_one ?_
  refine ds_ret ?_
  refine de_and ?_ ?_
  refine de_isi .int ?_ ?_ ?_ ?_ ?_ ?_
  decide +kernel
  exact c.free 43
  rfl
  rfl
  exact c.free 44
  exact dv 0
  refine de_and ?_ ?_
  refine de_not ?_
  refine de_isi .bl ?_ ?_ ?_ ?_ ?_ ?_
  decide +kernel
  exact c.free 41
  rfl
  rfl
  exact c.free 44
  exact dv 0
  refine de_one ?_
  refine de_chain op_le lr_I0 op_le lr_I0 ?_ ?_ ?_
  exact dv 1
  exact dv 0
  exact dv 2
theorem dv_need_rule (c : Fx fa fn ex K mg) {qual : Str} {f : Addr} {cdv : Value} {A : Around} {outer : List Env} {s : Shared} {H B : Hp} {E : XK} {WD : XDW} (hr : Room 0 (A.deeper (envOfC qual (defScope s_need_rule) s.heap.objs.size f cdv))) (hx : XOk (cxOf (L2.CX P w) P w K mg base N_need_rule qual (defScope s_need_rule) f cdv A outer s H E) B WD) :
    DSs (cxOf (L2.CX P w) P w K mg base N_need_rule qual (defScope s_need_rule) f cdv A outer s H E) B (defBody s_need_rule) (t_need_rule K WD) := by
  refine dss_one ?_
  refine ds_if ?_ ?_ ?_
  refine DW.dt ?_
  refine dw_or ?_ ?_
  refine dt_not ?_
  refine dt_val ?_
  refine de_isi .str ?_ ?_ ?_ ?_ ?_ ?_
  decide +kernel
  exact c.free 52
  rfl
  rfl
  exact c.free 44
  exact dv 0
  refine dw_or1 ?_
  refine dt_cmp (r := rInA K not true) ?_ ?_ ?_ ?_ ?_
  exact op_notinA (hu_of hr)
  exact lr_notin
  exact dv 0
  refine de_globT (a := He.ga K "RULES") (vs := [.str "came", .str "used", .str "last", .str "often", .str "clock", .str "high"]) ?_ ?_ ?_
  rfl
  exact c.glo 38
  exact fun H => He.tupB_ok (tup_RULES c) H
  rfl
  refine dss_one ?_
  refine ds_rz (K0 := []) ?_ ?_ ?_ ?_
  rfl
  exact hx
  exact c.exc 59
  exact c.glo 1
  exact dss_nil
theorem dv_need_size (c : Fx fa fn ex K mg) (o_is_number : OkF P w K mg base 1 (He.fAd K d_is_number.at_) ps_is_number (dsp_is_number K)) {qual : Str} {f : Addr} {cdv : Value} {A : Around} {outer : List Env} {s : Shared} {H B : Hp} {E : XK} {WD : XDW} (hr : Room 1 (A.deeper (envOfC qual (defScope s_need_size) s.heap.objs.size f cdv))) (hx : XOk (cxOf (L2.CX P w) P w K mg base N_need_size qual (defScope s_need_size) f cdv A outer s H E) B WD) :
    DSs (cxOf (L2.CX P w) P w K mg base N_need_size qual (defScope s_need_size) f cdv A outer s H E) B (defBody s_need_size) (t_need_size K WD) := by
  refine dss_one ?_
  refine ds_if ?_ ?_ ?_
  refine dt_not ?_
  refine dt_val ?_
  refine de_cf (f := He.fAd K d_is_number.at_) (ps := ps_is_number) (k := 1) (j := 1) ?_ ?_ ?_ ?_ ?_
  exact o_is_number
  exact hr
  exact c.glo 6
  exact hx
  refine da_cons ?_ ?_
  exact dv 0
  refine da_cons ?_ ?_
  exact de_int
  refine da_cons ?_ ?_
  refine de_glob (v := .int 6) (u := .int 6 (c.int 54).choose) ?_ ?_ ?_
  rfl
  exact (c.int 54).choose_spec
  exact ⟨_, rfl⟩
  exact da_nil
  refine dss_one ?_
  refine ds_rz (K0 := []) ?_ ?_ ?_ ?_
  rfl
  exact hx
  exact c.exc 60
  exact c.glo 2
  exact dss_nil
theorem dv_need_stream (c : Fx fa fn ex K mg) (o_is_number : OkF P w K mg base 1 (He.fAd K d_is_number.at_) ps_is_number (dsp_is_number K)) {qual : Str} {f : Addr} {cdv : Value} {A : Around} {outer : List Env} {s : Shared} {H B : Hp} {E : XK} {WD : XDW} (hr : Room 1 (A.deeper (envOfC qual (defScope s_need_stream) s.heap.objs.size f cdv))) (hx : XOk (cxOf (L2.CX P w) P w K mg base N_need_stream qual (defScope s_need_stream) f cdv A outer s H E) B WD) :
    DSs (cxOf (L2.CX P w) P w K mg base N_need_stream qual (defScope s_need_stream) f cdv A outer s H E) B (defBody s_need_stream) (t_need_stream K WD) := by
  refine dss_cons ?_ ?_
  refine ds_if ?_ ?_ ?_
  refine dt_not ?_
  refine dt_val ?_
  refine de_isi .tup ?_ ?_ ?_ ?_ ?_ ?_
  decide +kernel
  exact c.free 53
  rfl
  rfl
  exact c.free 44
  exact dv 0
  refine dss_one ?_
  exact ds_never
  exact dss_nil
  refine dss_one ?_
  refine ds_for ?_ ?_ ?_ ?_ ?_
  exact passes_of rfl
  rfl
  refine di_enumT ?_ ?_ ?_
  rfl
  exact c.free 42
  refine da_cons ?_ ?_
  exact dv 0
  exact da_nil
  refine dg_tup ?_ ?_
  rfl
  refine dgs_cons ?_ ?_
  refine dg_name (i := 1) ?_ ?_ ?_
  exact sc_need_stream.nd
  rfl
  first | exact Or.inl rfl | exact Or.inr rfl
  refine dgs_cons ?_ ?_
  refine dg_name (i := 2) ?_ ?_ ?_
  exact sc_need_stream.nd
  rfl
  first | exact Or.inl rfl | exact Or.inr rfl
  exact dgs_nil
  refine dss_one ?_
  refine ds_if ?_ ?_ ?_
  refine DW.dt ?_
  refine dw_or ?_ ?_
  refine dt_cmp (r := rEqA K) ?_ ?_ ?_ ?_ ?_
  exact op_eqA hr.units
  exact lr_eq
  exact dv 1
  refine de_glob (v := .int 60) (u := .int 60 (c.int 56).choose) ?_ ?_ ?_
  rfl
  exact (c.int 56).choose_spec
  exact ⟨_, rfl⟩
  rfl
  refine dw_or1 ?_
  refine dt_not ?_
  refine dt_val ?_
  refine de_cf (f := He.fAd K d_is_number.at_) (ps := ps_is_number) (k := 1) (j := 1) ?_ ?_ ?_ ?_ ?_
  exact o_is_number
  exact hr
  exact c.glo 6
  exact hx
  refine da_cons ?_ ?_
  exact dv 2
  refine da_cons ?_ ?_
  exact de_int
  refine da_cons ?_ ?_
  refine de_glob (v := .int 9) (u := .int 9 (c.int 55).choose) ?_ ?_ ?_
  rfl
  exact (c.int 55).choose_spec
  exact ⟨_, rfl⟩
  exact da_nil
  refine dss_one ?_
  exact ds_never
  exact dss_nil
theorem dv_pages_of (c : Fx fa fn ex K mg) {qual : Str} {f : Addr} {cdv : Value} {A : Around} {outer : List Env} {s : Shared} {H B : Hp} {E : XK} {WD : XDW} (hr : Room 0 (A.deeper (envOfC qual (defScope s_pages_of) s.heap.objs.size f cdv))) (hx : XOk (cxOf (L2.CX P w) P w K mg base N_pages_of qual (defScope s_pages_of) f cdv A outer s H E) B WD) :
    DSs (cxOf (L2.CX P w) P w K mg base N_pages_of qual (defScope s_pages_of) f cdv A outer s H E) B (defBody s_pages_of) (t_pages_of K WD) := by
  refine dss_one ?_
  refine ds_ret ?_
  refine de_lc (own := [("page", 1), ("mark", 2)]) (g := (gTup K 2 (gCons (gName 1) (gCons (gName 2) gNil)))) (tt := tYes) ?_ ?_ ?_ ?_ (fun _ _ _ _ _ => ?_) ?_ ?_ (fun _ _ _ _ _ => ?_) ?_ (fun _ _ _ _ _ => ?_)
  rfl
  exact sc_pages_of.nd
  refine di_tup ?_
  refine de_ix ?_ ?_ ?_
  exact dv 0
  exact de_int
  exact fun _ _ => rfl
  exact blkOk_by (N := N_pages_of) (sc := defScope s_pages_of) (own := [("page", 1), ("mark", 2)]) (by decide +kernel)
  refine pg_tup ?_ ?_ ?_ ?_
  rfl
  refine pgs_cons ?_ ?_
  refine pg_name (i := 1) ?_ ?_ ?_
  exact sc_pages_of.nd
  rfl
  first | exact Or.inl rfl | exact Or.inr rfl
  refine pgs_cons ?_ ?_
  refine pg_name (i := 2) ?_ ?_ ?_
  exact sc_pages_of.nd
  rfl
  first | exact Or.inl rfl | exact Or.inr rfl
  exact pgs_nil
  rfl
  rfl
  refine lg_tup ?_
  refine lgs_cons ?_ ?_
  exact lg_name
  refine lgs_cons ?_ ?_
  exact lg_name
  exact lgs_nil
  refine ownG_tup ?_
  refine ownGs_cons ?_ ?_
  exact ownG_name (by decide)
  refine ownGs_cons ?_ ?_
  exact ownG_name (by decide)
  exact ownGs_nil
  exact pts_nil
  exact lt_yes
  exact dv 1
theorem dv_started (c : Fx fa fn ex K mg) {qual : Str} {f : Addr} {cdv : Value} {A : Around} {outer : List Env} {s : Shared} {H B : Hp} {E : XK} {WD : XDW} (hr : Room 0 (A.deeper (envOfC qual (defScope s_started) s.heap.objs.size f cdv))) (hx : XOk (cxOf (L2.CX P w) P w K mg base N_started qual (defScope s_started) f cdv A outer s H E) B WD) :
    DSs (cxOf (L2.CX P w) P w K mg base N_started qual (defScope s_started) f cdv A outer s H E) B (defBody s_started) (t_started K WD) := by
  refine dss_one ?_
  refine ds_ret ?_
  refine de_tup ?_
  refine da_cons ?_ ?_
  refine de_tup ?_
  exact da_nil
  refine da_cons ?_ ?_
  exact de_int
  exact da_nil
theorem dv_hit (c : Fx fa fn ex K mg) {qual : Str} {f : Addr} {cdv : Value} {A : Around} {outer : List Env} {s : Shared} {H B : Hp} {E : XK} {WD : XDW} (hr : Room 0 (A.deeper (envOfC qual (defScope s_hit) s.heap.objs.size f cdv))) (hx : XOk (cxOf (L2.CX P w) P w K mg base N_hit qual (defScope s_hit) f cdv A outer s H E) B WD) :
    DSs (cxOf (L2.CX P w) P w K mg base N_hit qual (defScope s_hit) f cdv A outer s H E) B (defBody s_hit) (t_hit K WD) := by
  refine dss_cons ?_ ?_
  refine ds_asg ?_ ?_
  exact dv 1
  refine dg_tup ?_ ?_
  rfl
  refine dgs_cons ?_ ?_
  refine dg_name (i := 3) ?_ ?_ ?_
  exact sc_hit.nd
  rfl
  first | exact Or.inl rfl | exact Or.inr rfl
  refine dgs_cons ?_ ?_
  refine dg_name (i := 4) ?_ ?_ ?_
  exact sc_hit.nd
  rfl
  first | exact Or.inl rfl | exact Or.inr rfl
  exact dgs_nil
  refine dss_cons ?_ ?_
  refine ds_if ?_ ?_ ?_
  refine dt_cmp (r := rInA K id false) ?_ ?_ ?_ ?_ ?_
  exact op_inA (hu_of hr)
  exact lr_in
  exact dv 0
  refine de_tup ?_
  refine da_cons ?_ ?_
  exact de_str
  refine da_cons ?_ ?_
  exact de_str
  exact da_nil
  rfl
  refine dss_one ?_
  refine ds_ret ?_
  refine de_tup ?_
  refine da_cons ?_ ?_
  refine de_op op_addA lr_add ?_ ?_
  refine de_ty (r := rTupleA K) (call_tuple_of) lc_tuple ?_ ?_ ?_ ?_
  rfl
  exact c.free 53
  decide +kernel
  refine da_cons ?_ ?_
  refine de_lc (own := [("row", 5)]) (g := (gName 5)) (tt := (upT K B (dTest (dOp dNe (dOp dIx (dVar 5) (dC (dI 0))) (dVar 2))))) ?_ ?_ ?_ ?_ (fun _ _ _ _ _ => ?_) ?_ ?_ (fun _ _ _ _ _ => ?_) ?_ (fun _ _ _ _ _ => ?_)
  rfl
  exact sc_hit.nd
  refine di_tup ?_
  exact dv 3
  exact blkOk_by (N := N_hit) (sc := defScope s_hit) (own := [("row", 5)]) (by decide +kernel)
  refine pg_name (i := 5) ?_ ?_ ?_
  exact sc_hit.nd
  rfl
  first | exact Or.inl rfl | exact Or.inr rfl
  exact lg_name
  exact ownG_name (by decide)
  refine pts_oneU ?_
  refine dt_cmp (r := rNeA K) ?_ ?_ ?_ ?_ ?_
  exact op_neA hr.units
  exact lr_ne
  refine de_ix ?_ ?_ ?_
  exact dv 5
  exact de_int
  exact fun _ _ => rfl
  exact dv 2
  rfl
  exact upT_le
  exact dv 5
  exact da_nil
  refine de_tup ?_
  refine da_cons ?_ ?_
  refine de_tup ?_
  refine da_cons ?_ ?_
  exact dv 2
  refine da_cons ?_ ?_
  exact de_int
  exact da_nil
  exact da_nil
  refine da_cons ?_ ?_
  exact dv 4
  exact da_nil
  exact dss_nil
  refine dss_cons ?_ ?_
  refine ds_if ?_ ?_ ?_
  refine dt_cmp (r := rEqA K) ?_ ?_ ?_ ?_ ?_
  exact op_eqA hr.units
  exact lr_eq
  exact dv 0
  exact de_str
  rfl
  refine dss_one ?_
  refine ds_ret ?_
  refine de_tup ?_
  refine da_cons ?_ ?_
  refine de_ty (r := rTupleA K) (call_tuple_of) lc_tuple ?_ ?_ ?_ ?_
  rfl
  exact c.free 53
  decide +kernel
  refine da_cons ?_ ?_
  refine de_lc (own := [("one", 6), ("mark", 7)]) (g := (gTup K 2 (gCons (gName 6) (gCons (gName 7) gNil)))) (tt := tYes) ?_ ?_ ?_ ?_ (fun _ _ _ _ _ => ?_) ?_ ?_ (fun _ _ _ _ _ => ?_) ?_ (fun _ _ _ _ _ => ?_)
  rfl
  exact sc_hit.nd
  refine di_tup ?_
  exact dv 3
  exact blkOk_by (N := N_hit) (sc := defScope s_hit) (own := [("one", 6), ("mark", 7)]) (by decide +kernel)
  refine pg_tup ?_ ?_ ?_ ?_
  rfl
  refine pgs_cons ?_ ?_
  refine pg_name (i := 6) ?_ ?_ ?_
  exact sc_hit.nd
  rfl
  first | exact Or.inl rfl | exact Or.inr rfl
  refine pgs_cons ?_ ?_
  refine pg_name (i := 7) ?_ ?_ ?_
  exact sc_hit.nd
  rfl
  first | exact Or.inl rfl | exact Or.inr rfl
  exact pgs_nil
  rfl
  rfl
  refine lg_tup ?_
  refine lgs_cons ?_ ?_
  exact lg_name
  refine lgs_cons ?_ ?_
  exact lg_name
  exact lgs_nil
  refine ownG_tup ?_
  refine ownGs_cons ?_ ?_
  exact ownG_name (by decide)
  refine ownGs_cons ?_ ?_
  exact ownG_name (by decide)
  exact ownGs_nil
  exact pts_nil
  exact lt_yes
  refine de_tup ?_
  refine da_cons ?_ ?_
  exact dv 6
  refine da_cons ?_ ?_
  refine de_op op_addA lr_add ?_ ?_
  exact dv 7
  refine de_ty (r := rIntA) (call_int1) lc_int ?_ ?_ ?_ ?_
  rfl
  exact c.free 43
  decide +kernel
  refine da_cons ?_ ?_
  refine de_cmp (r := rEqA K) ?_ ?_ ?_ ?_ ?_
  exact op_eqA hr.units
  exact lr_eq
  exact dv 6
  exact dv 2
  rfl
  exact da_nil
  exact da_nil
  exact da_nil
  refine da_cons ?_ ?_
  exact dv 4
  exact da_nil
  exact dss_nil
  refine dss_cons ?_ ?_
  refine ds_if ?_ ?_ ?_
  refine dt_cmp (r := rEqA K) ?_ ?_ ?_ ?_ ?_
  exact op_eqA hr.units
  exact lr_eq
  exact dv 0
  exact de_str
  rfl
  refine dss_one ?_
  refine ds_ret ?_
  refine de_tup ?_
  refine da_cons ?_ ?_
  refine de_ty (r := rTupleA K) (call_tuple_of) lc_tuple ?_ ?_ ?_ ?_
  rfl
  exact c.free 53
  decide +kernel
  refine da_cons ?_ ?_
  refine de_lc (own := [("one", 6), ("mark", 7)]) (g := (gTup K 2 (gCons (gName 6) (gCons (gName 7) gNil)))) (tt := tYes) ?_ ?_ ?_ ?_ (fun _ _ _ _ _ => ?_) ?_ ?_ (fun _ _ _ _ _ => ?_) ?_ (fun _ _ _ _ _ => ?_)
  rfl
  exact sc_hit.nd
  refine di_tup ?_
  exact dv 3
  exact blkOk_by (N := N_hit) (sc := defScope s_hit) (own := [("one", 6), ("mark", 7)]) (by decide +kernel)
  refine pg_tup ?_ ?_ ?_ ?_
  rfl
  refine pgs_cons ?_ ?_
  refine pg_name (i := 6) ?_ ?_ ?_
  exact sc_hit.nd
  rfl
  first | exact Or.inl rfl | exact Or.inr rfl
  refine pgs_cons ?_ ?_
  refine pg_name (i := 7) ?_ ?_ ?_
  exact sc_hit.nd
  rfl
  first | exact Or.inl rfl | exact Or.inr rfl
  exact pgs_nil
  rfl
  rfl
  refine lg_tup ?_
  refine lgs_cons ?_ ?_
  exact lg_name
  refine lgs_cons ?_ ?_
  exact lg_name
  exact lgs_nil
  refine ownG_tup ?_
  refine ownGs_cons ?_ ?_
  exact ownG_name (by decide)
  refine ownGs_cons ?_ ?_
  exact ownG_name (by decide)
  exact ownGs_nil
  exact pts_nil
  exact lt_yes
  refine de_tup ?_
  refine da_cons ?_ ?_
  exact dv 6
  refine da_cons ?_ ?_
  refine de_if ?_ ?_ ?_
  refine dt_cmp (r := rEqA K) ?_ ?_ ?_ ?_ ?_
  exact op_eqA hr.units
  exact lr_eq
  exact dv 6
  exact dv 2
  rfl
  exact de_int
  exact dv 7
  exact da_nil
  exact da_nil
  refine da_cons ?_ ?_
  exact dv 4
  exact da_nil
  exact dss_nil
  refine dss_one ?_
  refine ds_ret ?_
  exact dv 1
theorem dv_loser (c : Fx fa fn ex K mg) {qual : Str} {f : Addr} {cdv : Value} {A : Around} {outer : List Env} {s : Shared} {H B : Hp} {E : XK} {WD : XDW} (hr : Room 0 (A.deeper (envOfC qual (defScope s_loser) s.heap.objs.size f cdv))) (hx : XOk (cxOf (L2.CX P w) P w K mg base N_loser qual (defScope s_loser) f cdv A outer s H E) B WD) :
    DSs (cxOf (L2.CX P w) P w K mg base N_loser qual (defScope s_loser) f cdv A outer s H E) B (defBody s_loser) (t_loser K WD) := by
  refine dss_cons ?_ ?_
  refine ds_asg ?_ ?_
  exact dv 1
  refine dg_tup ?_ ?_
  rfl
  refine dgs_cons ?_ ?_
  refine dg_name (i := 3) ?_ ?_ ?_
  exact sc_loser.nd
  rfl
  first | exact Or.inl rfl | exact Or.inr rfl
  refine dgs_cons ?_ ?_
  refine dg_name (i := 4) ?_ ?_ ?_
  exact sc_loser.nd
  rfl
  first | exact Or.inl rfl | exact Or.inr rfl
  exact dgs_nil
  refine dss_cons ?_ ?_
  refine ds_setLc (i := 5) (own := [("place", 6), ("row", 7)]) (g := (gTup K 2 (gCons (gName 6) (gCons (gName 7) gNil)))) (tt := (upT K B (dTest (dOp dNotin (dOp dIx (dVar 7) (dC (dI 0))) (dVar 2))))) ?_ ?_ ?_ ?_ ?_ ?_ ?_ (fun _ _ _ _ _ => ?_) ?_ ?_ (fun _ _ _ _ _ => ?_) ?_ (fun _ _ _ _ _ => ?_)
  rfl
  exact sc_loser.nd
  rfl
  rfl
  exact sw_true rfl rfl rfl (by decide +kernel)
  refine di_enumT ?_ ?_ ?_
  rfl
  exact c.free 42
  refine da_cons ?_ ?_
  exact dv 3
  exact da_nil
  exact blkOk_by (N := N_loser) (sc := defScope s_loser) (own := [("place", 6), ("row", 7)]) (by decide +kernel)
  refine pg_tup ?_ ?_ ?_ ?_
  rfl
  refine pgs_cons ?_ ?_
  refine pg_name (i := 6) ?_ ?_ ?_
  exact sc_loser.nd
  rfl
  first | exact Or.inl rfl | exact Or.inr rfl
  refine pgs_cons ?_ ?_
  refine pg_name (i := 7) ?_ ?_ ?_
  exact sc_loser.nd
  rfl
  first | exact Or.inl rfl | exact Or.inr rfl
  exact pgs_nil
  rfl
  rfl
  refine lg_tup ?_
  refine lgs_cons ?_ ?_
  exact lg_name
  refine lgs_cons ?_ ?_
  exact lg_name
  exact lgs_nil
  refine ownG_tup ?_
  refine ownGs_cons ?_ ?_
  exact ownG_name (by decide)
  refine ownGs_cons ?_ ?_
  exact ownG_name (by decide)
  exact ownGs_nil
  refine pts_oneU ?_
  refine dt_cmp (r := rInA K not true) ?_ ?_ ?_ ?_ ?_
  exact op_notinA (hu_of hr)
  exact lr_notin
  refine de_ix ?_ ?_ ?_
  exact dv 7
  exact de_int
  exact fun _ _ => rfl
  exact dv 2
  rfl
  exact upT_le
  exact dv 6
  refine dss_cons ?_ ?_
  refine ds_if ?_ ?_ ?_
  refine dt_cmp (r := rEqA K) ?_ ?_ ?_ ?_ ?_
  exact op_eqA hr.units
  exact lr_eq
  exact dv 5
  refine de_lst ?_
  exact da_nil
  rfl
  refine dss_one ?_
  refine ds_ret ?_
  exact de_non
  exact dss_nil
  refine dss_cons ?_ ?_
  refine ds_if ?_ ?_ ?_
  refine dt_cmp (r := rInA K id false) ?_ ?_ ?_ ?_ ?_
  exact op_inA (hu_of hr)
  exact lr_in
  exact dv 0
  refine de_tup ?_
  refine da_cons ?_ ?_
  exact de_str
  refine da_cons ?_ ?_
  exact de_str
  exact da_nil
  rfl
  refine dss_one ?_
  refine ds_ret ?_
  refine de_tup ?_
  refine da_cons ?_ ?_
  refine de_ix ?_ ?_ ?_
  exact dv 5
  exact de_int
  exact fun _ _ => rfl
  refine da_cons ?_ ?_
  exact dv 3
  refine da_cons ?_ ?_
  exact dv 4
  exact da_nil
  exact dss_nil
  refine dss_cons ?_ ?_
  refine ds_if ?_ ?_ ?_
  refine dt_cmp (r := rEqA K) ?_ ?_ ?_ ?_ ?_
  exact op_eqA hr.units
  exact lr_eq
  exact dv 0
  exact de_str
  rfl
  refine dss_one ?_
  refine ds_ret ?_
  refine de_tup ?_
  refine da_cons ?_ ?_
  refine de_ix ?_ ?_ ?_
  exact dv 5
  refine de_neg ?_
  exact de_int
  exact fun _ _ => rfl
  refine da_cons ?_ ?_
  exact dv 3
  refine da_cons ?_ ?_
  exact dv 4
  exact da_nil
  exact dss_nil
  refine dss_cons ?_ ?_
  refine ds_if ?_ ?_ ?_
  refine dt_cmp (r := rEqA K) ?_ ?_ ?_ ?_ ?_
  exact op_eqA hr.units
  exact lr_eq
  exact dv 0
  exact de_str
  rfl
  refine dss_one ?_
  refine ds_ret ?_
  refine de_tup ?_
  refine da_cons ?_ ?_
  refine de_ix ?_ ?_ ?_
  refine de_bi (id := "min") (r := rBest K PySem.W.minD) ?_ ?_ ?_ ?_ ?_ ?_
  exact cr_minL hr.units rfl
  exact lc_best
  rfl
  exact c.free 48
  decide +kernel
  refine da_cons ?_ ?_
  refine de_lc (own := [("place", 6)]) (g := (gName 6)) (tt := tYes) ?_ ?_ ?_ ?_ (fun _ _ _ _ _ => ?_) ?_ ?_ (fun _ _ _ _ _ => ?_) ?_ (fun _ _ _ _ _ => ?_)
  rfl
  exact sc_loser.nd
  refine di_lst ?_
  exact dv 5
  exact blkOk_by (N := N_loser) (sc := defScope s_loser) (own := [("place", 6)]) (by decide +kernel)
  refine pg_name (i := 6) ?_ ?_ ?_
  exact sc_loser.nd
  rfl
  first | exact Or.inl rfl | exact Or.inr rfl
  exact lg_name
  exact ownG_name (by decide)
  exact pts_nil
  exact lt_yes
  refine de_tup ?_
  refine da_cons ?_ ?_
  refine de_ix ?_ ?_ ?_
  refine de_ix ?_ ?_ ?_
  exact dv 3
  exact dv 6
  exact fun _ _ => rfl
  exact de_int
  exact fun _ _ => rfl
  refine da_cons ?_ ?_
  exact dv 6
  exact da_nil
  exact da_nil
  exact de_int
  exact fun _ _ => rfl
  refine da_cons ?_ ?_
  exact dv 3
  refine da_cons ?_ ?_
  exact dv 4
  exact da_nil
  exact dss_nil
  refine dss_cons ?_ ?_
  refine ds_if ?_ ?_ ?_
  refine dt_cmp (r := rEqA K) ?_ ?_ ?_ ?_ ?_
  exact op_eqA hr.units
  exact lr_eq
  exact dv 0
  exact de_str
  rfl
  refine dss_one ?_
  refine ds_ret ?_
  refine de_tup ?_
  refine da_cons ?_ ?_
  refine de_ix ?_ ?_ ?_
  refine de_bi (id := "max") (r := rBest K PySem.W.maxD) ?_ ?_ ?_ ?_ ?_ ?_
  exact cr_maxL hr.units rfl
  exact lc_best
  rfl
  exact c.free 47
  decide +kernel
  refine da_cons ?_ ?_
  refine de_lc (own := [("place", 6)]) (g := (gName 6)) (tt := tYes) ?_ ?_ ?_ ?_ (fun _ _ _ _ _ => ?_) ?_ ?_ (fun _ _ _ _ _ => ?_) ?_ (fun _ _ _ _ _ => ?_)
  rfl
  exact sc_loser.nd
  refine di_lst ?_
  exact dv 5
  exact blkOk_by (N := N_loser) (sc := defScope s_loser) (own := [("place", 6)]) (by decide +kernel)
  refine pg_name (i := 6) ?_ ?_ ?_
  exact sc_loser.nd
  rfl
  first | exact Or.inl rfl | exact Or.inr rfl
  exact lg_name
  exact ownG_name (by decide)
  exact pts_nil
  exact lt_yes
  refine de_tup ?_
  refine da_cons ?_ ?_
  refine de_ix ?_ ?_ ?_
  refine de_ix ?_ ?_ ?_
  exact dv 3
  exact dv 6
  exact fun _ _ => rfl
  exact de_int
  exact fun _ _ => rfl
  refine da_cons ?_ ?_
  exact dv 6
  exact da_nil
  exact da_nil
  exact de_int
  exact fun _ _ => rfl
  refine da_cons ?_ ?_
  exact dv 3
  refine da_cons ?_ ?_
  exact dv 4
  exact da_nil
  exact dss_nil
  refine dss_cons ?_ ?_
  refine ds_set (i := 3) ?_ ?_ ?_ ?_
  exact sc_loser.nd
  rfl
  first | exact Or.inl rfl | exact Or.inr rfl
  refine de_ty (cr_list (by rfl)) lc_list ?_ ?_ ?_ ?_
  rfl
  exact c.free 46
  decide +kernel
  refine da_cons ?_ ?_
  exact dv 3
  exact da_nil
  refine dss_cons ?_ ?_
  refine ds_while ?_ ?_ ?_
  exact passes_of rfl
  refine DW.dt ?_
  refine dw_or ?_ ?_
  refine dt_cmp (r := rEqA K) ?_ ?_ ?_ ?_ ?_
  exact op_eqA hr.units
  exact lr_eq
  refine de_ix ?_ ?_ ?_
  refine de_ix ?_ ?_ ?_
  exact dv 3
  exact dv 4
  exact fun _ _ => rfl
  exact de_int
  exact fun _ _ => rfl
  exact de_int
  rfl
  refine dw_or1 ?_
  refine dt_cmp (r := rInA K id false) ?_ ?_ ?_ ?_ ?_
  exact op_inA (hu_of hr)
  exact lr_in
  refine de_ix ?_ ?_ ?_
  refine de_ix ?_ ?_ ?_
  exact dv 3
  exact dv 4
  exact fun _ _ => rfl
  exact de_int
  exact fun _ _ => rfl
  exact dv 2
  rfl
  refine dss_cons ?_ ?_
  refine ds_if ?_ ?_ ?_
  refine dt_cmp (r := rInA K not true) ?_ ?_ ?_ ?_ ?_
  exact op_notinA (hu_of hr)
  exact lr_notin
  refine de_ix ?_ ?_ ?_
  refine de_ix ?_ ?_ ?_
  exact dv 3
  exact dv 4
  exact fun _ _ => rfl
  exact de_int
  exact fun _ _ => rfl
  exact dv 2
  rfl
  refine dss_one ?_
  refine ds_put ?_ ?_ ?_ ?_
  exact hu_of hr
  exact dv 3
  exact dv 4
  refine de_tup ?_
  refine da_cons ?_ ?_
  refine de_ix ?_ ?_ ?_
  refine de_ix ?_ ?_ ?_
  exact dv 3
  exact dv 4
  exact fun _ _ => rfl
  exact de_int
  exact fun _ _ => rfl
  refine da_cons ?_ ?_
  exact de_int
  exact da_nil
  exact dss_nil
  refine dss_one ?_
  refine ds_set (i := 4) ?_ ?_ ?_ ?_
  exact sc_loser.nd
  rfl
  first | exact Or.inl rfl | exact Or.inr rfl
  refine de_op op_mod lr_I ?_ ?_
  refine de_op op_addA lr_add ?_ ?_
  exact dv 4
  exact de_int
  refine de_bi (cr_len) lc_len ?_ ?_ ?_ ?_
  rfl
  exact c.free 45
  decide +kernel
  refine da_cons ?_ ?_
  exact dv 3
  exact da_nil
  refine dss_one ?_
  refine ds_ret ?_
  refine de_tup ?_
  refine da_cons ?_ ?_
  exact dv 4
  refine da_cons ?_ ?_
  refine de_ty (r := rTupleA K) (call_tuple_of) lc_tuple ?_ ?_ ?_ ?_
  rfl
  exact c.free 53
  decide +kernel
  refine da_cons ?_ ?_
  exact dv 3
  exact da_nil
  refine da_cons ?_ ?_
  exact dv 4
  exact da_nil
theorem dv_mark_of (c : Fx fa fn ex K mg) {qual : Str} {f : Addr} {cdv : Value} {A : Around} {outer : List Env} {s : Shared} {H B : Hp} {E : XK} {WD : XDW} (hr : Room 0 (A.deeper (envOfC qual (defScope s_mark_of) s.heap.objs.size f cdv))) (hx : XOk (cxOf (L2.CX P w) P w K mg base N_mark_of qual (defScope s_mark_of) f cdv A outer s H E) B WD) :
    DSs (cxOf (L2.CX P w) P w K mg base N_mark_of qual (defScope s_mark_of) f cdv A outer s H E) B (defBody s_mark_of) (t_mark_of K WD) := by
  refine dss_one ?_
  refine ds_ret ?_
  refine de_ty (r := rIntA) (call_int1) lc_int ?_ ?_ ?_ ?_
  rfl
  exact c.free 43
  decide +kernel
  refine da_cons ?_ ?_
  refine de_cmp (r := rInA K id false) ?_ ?_ ?_ ?_ ?_
  exact op_inA (hu_of hr)
  exact lr_in
  exact dv 0
  refine de_tup ?_
  refine da_cons ?_ ?_
  exact de_str
  refine da_cons ?_ ?_
  exact de_str
  exact da_nil
  rfl
  exact da_nil
theorem dv_miss (c : Fx fa fn ex K mg) (o_mark_of : OkF P w K mg base 1 (He.fAd K d_mark_of.at_) ps_mark_of (dsp_mark_of K)) (o_loser : OkF P w K mg base 1 (He.fAd K d_loser.at_) ps_loser (dsp_loser K)) {qual : Str} {f : Addr} {cdv : Value} {A : Around} {outer : List Env} {s : Shared} {H B : Hp} {E : XK} {WD : XDW} (hr : Room 1 (A.deeper (envOfC qual (defScope s_miss) s.heap.objs.size f cdv))) (hx : XOk (cxOf (L2.CX P w) P w K mg base N_miss qual (defScope s_miss) f cdv A outer s H E) B WD) :
    DSs (cxOf (L2.CX P w) P w K mg base N_miss qual (defScope s_miss) f cdv A outer s H E) B (defBody s_miss) (t_miss K WD) := by
  refine dss_cons ?_ ?_
  refine ds_asg ?_ ?_
  exact dv 2
  refine dg_tup ?_ ?_
  rfl
  refine dgs_cons ?_ ?_
  refine dg_name (i := 5) ?_ ?_ ?_
  exact sc_miss.nd
  rfl
  first | exact Or.inl rfl | exact Or.inr rfl
  refine dgs_cons ?_ ?_
  refine dg_name (i := 6) ?_ ?_ ?_
  exact sc_miss.nd
  rfl
  first | exact Or.inl rfl | exact Or.inr rfl
  exact dgs_nil
  refine dss_cons ?_ ?_
  refine ds_if ?_ ?_ ?_
  refine dt_cmp op_lt lr_I0 ?_ ?_ ?_
  refine de_bi (cr_len) lc_len ?_ ?_ ?_ ?_
  rfl
  exact c.free 45
  decide +kernel
  refine da_cons ?_ ?_
  exact dv 5
  exact da_nil
  exact dv 1
  rfl
  refine dss_one ?_
  refine ds_ret ?_
  refine de_tup ?_
  refine da_cons ?_ ?_
  refine de_tup ?_
  refine da_cons ?_ ?_
  refine de_op op_addA lr_add ?_ ?_
  exact dv 5
  refine de_tup ?_
  refine da_cons ?_ ?_
  refine de_tup ?_
  refine da_cons ?_ ?_
  exact dv 3
  refine da_cons ?_ ?_
  refine de_cf (f := He.fAd K d_mark_of.at_) (ps := ps_mark_of) (k := 1) (j := 1) ?_ ?_ ?_ ?_ ?_
  exact o_mark_of
  exact hr
  exact c.glo 14
  exact hx
  refine da_cons ?_ ?_
  exact dv 0
  exact da_nil
  exact da_nil
  exact da_nil
  refine da_cons ?_ ?_
  exact dv 6
  exact da_nil
  refine da_cons ?_ ?_
  exact de_non
  exact da_nil
  exact dss_nil
  refine dss_cons ?_ ?_
  refine ds_set (i := 7) ?_ ?_ ?_ ?_
  exact sc_miss.nd
  rfl
  first | exact Or.inl rfl | exact Or.inr rfl
  refine de_cf (f := He.fAd K d_loser.at_) (ps := ps_loser) (k := 1) (j := 1) ?_ ?_ ?_ ?_ ?_
  exact o_loser
  exact hr
  exact c.glo 13
  exact hx
  refine da_cons ?_ ?_
  exact dv 0
  refine da_cons ?_ ?_
  exact dv 2
  refine da_cons ?_ ?_
  exact dv 4
  exact da_nil
  refine dss_cons ?_ ?_
  refine ds_if ?_ ?_ ?_
  refine dt_cmp op_isN lr_is ?_ ?_ ?_
  exact dv 7
  exact de_non
  rfl
  refine dss_one ?_
  refine ds_ret ?_
  exact de_non
  exact dss_nil
  refine dss_cons ?_ ?_
  refine ds_asg ?_ ?_
  exact dv 7
  refine dg_tup ?_ ?_
  rfl
  refine dgs_cons ?_ ?_
  refine dg_name (i := 8) ?_ ?_ ?_
  exact sc_miss.nd
  rfl
  first | exact Or.inl rfl | exact Or.inr rfl
  refine dgs_cons ?_ ?_
  refine dg_name (i := 5) ?_ ?_ ?_
  exact sc_miss.nd
  rfl
  first | exact Or.inl rfl | exact Or.inr rfl
  refine dgs_cons ?_ ?_
  refine dg_name (i := 6) ?_ ?_ ?_
  exact sc_miss.nd
  rfl
  first | exact Or.inl rfl | exact Or.inr rfl
  exact dgs_nil
  refine dss_cons ?_ ?_
  refine ds_set (i := 9) ?_ ?_ ?_ ?_
  exact sc_miss.nd
  rfl
  first | exact Or.inl rfl | exact Or.inr rfl
  refine de_ix ?_ ?_ ?_
  refine de_ix ?_ ?_ ?_
  exact dv 5
  exact dv 8
  exact fun _ _ => rfl
  exact de_int
  exact fun _ _ => rfl
  refine dss_cons ?_ ?_
  refine ds_if ?_ ?_ ?_
  refine dt_cmp (r := rEqA K) ?_ ?_ ?_ ?_ ?_
  exact op_eqA hr.units
  exact lr_eq
  exact dv 0
  exact de_str
  rfl
  refine dss_cons ?_ ?_
  refine ds_set (i := 5) ?_ ?_ ?_ ?_
  exact sc_miss.nd
  rfl
  first | exact Or.inl rfl | exact Or.inr rfl
  refine de_op op_addA lr_add ?_ ?_
  refine de_op op_addA lr_add ?_ ?_
  refine de_slice ?_ ?_ ?_
  exact dv 5
  exact do_none
  refine do_some ?_
  exact dv 8
  refine de_tup ?_
  refine da_cons ?_ ?_
  refine de_tup ?_
  refine da_cons ?_ ?_
  exact dv 3
  refine da_cons ?_ ?_
  exact de_int
  exact da_nil
  exact da_nil
  refine de_slice ?_ ?_ ?_
  exact dv 5
  refine do_some ?_
  refine de_op op_addA lr_add ?_ ?_
  exact dv 8
  exact de_int
  exact do_none
  refine dss_one ?_
  refine ds_ret ?_
  refine de_tup ?_
  refine da_cons ?_ ?_
  refine de_tup ?_
  refine da_cons ?_ ?_
  exact dv 5
  refine da_cons ?_ ?_
  refine de_op op_mod lr_I ?_ ?_
  refine de_op op_addA lr_add ?_ ?_
  exact dv 8
  exact de_int
  refine de_bi (cr_len) lc_len ?_ ?_ ?_ ?_
  rfl
  exact c.free 45
  decide +kernel
  refine da_cons ?_ ?_
  exact dv 5
  exact da_nil
  exact da_nil
  refine da_cons ?_ ?_
  exact dv 9
  exact da_nil
  exact dss_nil
  refine dss_cons ?_ ?_
  refine ds_set (i := 5) ?_ ?_ ?_ ?_
  exact sc_miss.nd
  rfl
  first | exact Or.inl rfl | exact Or.inr rfl
  refine de_op op_addA lr_add ?_ ?_
  refine de_op op_addA lr_add ?_ ?_
  refine de_slice ?_ ?_ ?_
  exact dv 5
  exact do_none
  refine do_some ?_
  exact dv 8
  refine de_slice ?_ ?_ ?_
  exact dv 5
  refine do_some ?_
  refine de_op op_addA lr_add ?_ ?_
  exact dv 8
  exact de_int
  exact do_none
  refine de_tup ?_
  refine da_cons ?_ ?_
  refine de_tup ?_
  refine da_cons ?_ ?_
  exact dv 3
  refine da_cons ?_ ?_
  refine de_cf (f := He.fAd K d_mark_of.at_) (ps := ps_mark_of) (k := 1) (j := 1) ?_ ?_ ?_ ?_ ?_
  exact o_mark_of
  exact hr
  exact c.glo 14
  exact hx
  refine da_cons ?_ ?_
  exact dv 0
  exact da_nil
  exact da_nil
  exact da_nil
  refine dss_one ?_
  refine ds_ret ?_
  refine de_tup ?_
  refine da_cons ?_ ?_
  refine de_tup ?_
  refine da_cons ?_ ?_
  exact dv 5
  refine da_cons ?_ ?_
  exact dv 6
  exact da_nil
  refine da_cons ?_ ?_
  exact dv 9
  exact da_nil
theorem dv_asked (c : Fx fa fn ex K mg) (o_pages_of : OkF P w K mg base 1 (He.fAd K d_pages_of.at_) ps_pages_of (dsp_pages_of K)) (o_hit : OkF P w K mg base 1 (He.fAd K d_hit.at_) ps_hit (dsp_hit K)) (o_miss : OkF P w K mg base 2 (He.fAd K d_miss.at_) ps_miss (dsp_miss K)) {qual : Str} {f : Addr} {cdv : Value} {A : Around} {outer : List Env} {s : Shared} {H B : Hp} {E : XK} {WD : XDW} (hr : Room 2 (A.deeper (envOfC qual (defScope s_asked) s.heap.objs.size f cdv))) (hx : XOk (cxOf (L2.CX P w) P w K mg base N_asked qual (defScope s_asked) f cdv A outer s H E) B WD) :
    DSs (cxOf (L2.CX P w) P w K mg base N_asked qual (defScope s_asked) f cdv A outer s H E) B (defBody s_asked) (t_asked K WD) := by
  refine dss_cons ?_ ?_
  refine ds_if ?_ ?_ ?_
  refine dt_cmp (r := rInA K id false) ?_ ?_ ?_ ?_ ?_
  exact op_inA (hu_of hr)
  exact lr_in
  exact dv 3
  refine de_cf (f := He.fAd K d_pages_of.at_) (ps := ps_pages_of) (k := 1) (j := 2) ?_ ?_ ?_ ?_ ?_
  exact o_pages_of
  exact hr
  exact c.glo 10
  exact hx
  refine da_cons ?_ ?_
  exact dv 2
  exact da_nil
  rfl
  refine dss_one ?_
  refine ds_ret ?_
  refine de_tup ?_
  refine da_cons ?_ ?_
  refine de_cf (f := He.fAd K d_hit.at_) (ps := ps_hit) (k := 1) (j := 2) ?_ ?_ ?_ ?_ ?_
  exact o_hit
  exact hr
  exact c.glo 12
  exact hx
  refine da_cons ?_ ?_
  exact dv 0
  refine da_cons ?_ ?_
  exact dv 2
  refine da_cons ?_ ?_
  exact dv 3
  exact da_nil
  refine da_cons ?_ ?_
  exact de_bl
  refine da_cons ?_ ?_
  exact de_non
  exact da_nil
  exact dss_nil
  refine dss_cons ?_ ?_
  refine ds_asg ?_ ?_
  refine de_cf (f := He.fAd K d_miss.at_) (ps := ps_miss) (k := 2) (j := 2) ?_ ?_ ?_ ?_ ?_
  exact o_miss
  exact hr
  exact c.glo 15
  exact hx
  refine da_cons ?_ ?_
  exact dv 0
  refine da_cons ?_ ?_
  exact dv 1
  refine da_cons ?_ ?_
  exact dv 2
  refine da_cons ?_ ?_
  exact dv 3
  refine da_cons ?_ ?_
  refine de_tup ?_
  exact da_nil
  exact da_nil
  refine dg_tup ?_ ?_
  rfl
  refine dgs_cons ?_ ?_
  refine dg_name (i := 4) ?_ ?_ ?_
  exact sc_asked.nd
  rfl
  first | exact Or.inl rfl | exact Or.inr rfl
  refine dgs_cons ?_ ?_
  refine dg_name (i := 5) ?_ ?_ ?_
  exact sc_asked.nd
  rfl
  first | exact Or.inl rfl | exact Or.inr rfl
  exact dgs_nil
  refine dss_one ?_
  refine ds_ret ?_
  refine de_tup ?_
  refine da_cons ?_ ?_
  exact dv 4
  refine da_cons ?_ ?_
  exact de_bl
  refine da_cons ?_ ?_
  exact dv 5
  exact da_nil
theorem dv_need_costs (c : Fx fa fn ex K mg) (o_is_number : OkF P w K mg base 1 (He.fAd K d_is_number.at_) ps_is_number (dsp_is_number K)) {qual : Str} {f : Addr} {cdv : Value} {A : Around} {outer : List Env} {s : Shared} {H B : Hp} {E : XK} {WD : XDW} (hr : Room 1 (A.deeper (envOfC qual (defScope s_need_costs) s.heap.objs.size f cdv))) (hx : XOk (cxOf (L2.CX P w) P w K mg base N_need_costs qual (defScope s_need_costs) f cdv A outer s H E) B WD) :
    DSs (cxOf (L2.CX P w) P w K mg base N_need_costs qual (defScope s_need_costs) f cdv A outer s H E) B (defBody s_need_costs) (t_need_costs K WD) := by
  refine dss_cons ?_ ?_
  refine ds_if ?_ ?_ ?_
  refine dt_cmp op_isN lr_is ?_ ?_ ?_
  exact dv 0
  exact de_non
  rfl
  refine dss_one ?_
  exact ds_retN
  exact dss_nil
  refine dss_cons ?_ ?_
  refine ds_if ?_ ?_ ?_
  refine DW.dt ?_
  refine dw_or ?_ ?_
  refine dt_not ?_
  refine dt_val ?_
  refine de_isi .tup ?_ ?_ ?_ ?_ ?_ ?_
  decide +kernel
  exact c.free 53
  rfl
  rfl
  exact c.free 44
  exact dv 0
  refine dw_or1 ?_
  refine dt_cmp (r := rNeA K) ?_ ?_ ?_ ?_ ?_
  exact op_neA hr.units
  exact lr_ne
  refine de_bi (cr_len) lc_len ?_ ?_ ?_ ?_
  rfl
  exact c.free 45
  decide +kernel
  refine da_cons ?_ ?_
  exact dv 0
  exact da_nil
  refine de_op op_addA lr_add ?_ ?_
  refine de_glob (v := .int 9) (u := .int 9 (c.int 55).choose) ?_ ?_ ?_
  rfl
  exact (c.int 55).choose_spec
  exact ⟨_, rfl⟩
  exact de_int
  rfl
  refine dss_one ?_
  refine ds_rz (K0 := []) ?_ ?_ ?_ ?_
  rfl
  exact hx
  exact c.exc 61
  exact c.glo 4
  exact dss_nil
  refine dss_one ?_
  refine ds_if ?_ ?_ ?_
  refine dt_not ?_
  refine dt_val ?_
  refine de_bi (cr_all (by rfl)) lc_all ?_ ?_ ?_ ?_
  rfl
  exact c.free 40
  decide +kernel
  refine da_cons ?_ ?_
  refine de_lc (own := [("cost", 1)]) (g := (gName 1)) (tt := tYes) ?_ ?_ ?_ ?_ (fun _ _ _ _ _ => ?_) ?_ ?_ (fun _ _ _ _ _ => ?_) ?_ (fun _ _ _ _ _ => ?_)
  rfl
  exact sc_need_costs.nd
  refine di_tup ?_
  exact dv 0
  exact blkOk_by (N := N_need_costs) (sc := defScope s_need_costs) (own := [("cost", 1)]) (by decide +kernel)
  refine pg_name (i := 1) ?_ ?_ ?_
  exact sc_need_costs.nd
  rfl
  first | exact Or.inl rfl | exact Or.inr rfl
  exact lg_name
  exact ownG_name (by decide)
  exact pts_nil
  exact lt_yes
  refine de_cf (f := He.fAd K d_is_number.at_) (ps := ps_is_number) (k := 1) (j := 1) ?_ ?_ ?_ ?_ ?_
  exact o_is_number
  exact hr
  exact c.glo 6
  exact xok_no
  refine da_cons ?_ ?_
  exact dv 1
  refine da_cons ?_ ?_
  exact de_int
  refine da_cons ?_ ?_
  refine de_glob (v := .int 99) (u := .int 99 (c.int 57).choose) ?_ ?_ ?_
  rfl
  exact (c.int 57).choose_spec
  exact ⟨_, rfl⟩
  exact da_nil
  exact da_nil
  refine dss_one ?_
  refine ds_rz (K0 := []) ?_ ?_ ?_ ?_
  rfl
  exact hx
  exact c.exc 61
  exact c.glo 4
  exact dss_nil
theorem dv_cost_of (c : Fx fa fn ex K mg) {qual : Str} {f : Addr} {cdv : Value} {A : Around} {outer : List Env} {s : Shared} {H B : Hp} {E : XK} {WD : XDW} (hr : Room 0 (A.deeper (envOfC qual (defScope s_cost_of) s.heap.objs.size f cdv))) (hx : XOk (cxOf (L2.CX P w) P w K mg base N_cost_of qual (defScope s_cost_of) f cdv A outer s H E) B WD) :
    DSs (cxOf (L2.CX P w) P w K mg base N_cost_of qual (defScope s_cost_of) f cdv A outer s H E) B (defBody s_cost_of) (t_cost_of K WD) := by
  refine dss_one ?_
  refine ds_ret ?_
  refine de_if ?_ ?_ ?_
  refine dt_cmp op_isN lr_is ?_ ?_ ?_
  exact dv 0
  exact de_non
  rfl
  exact de_int
  refine de_ix ?_ ?_ ?_
  exact dv 0
  exact dv 1
  exact fun _ _ => rfl
theorem dv_moves (c : Fx fa fn ex K mg) {qual : Str} {f : Addr} {cdv : Value} {A : Around} {outer : List Env} {s : Shared} {H B : Hp} {E : XK} {WD : XDW} (hr : Room 0 (A.deeper (envOfC qual (defScope s_moves) s.heap.objs.size f cdv))) (hx : XOk (cxOf (L2.CX P w) P w K mg base N_moves qual (defScope s_moves) f cdv A outer s H E) B WD) :
    DSs (cxOf (L2.CX P w) P w K mg base N_moves qual (defScope s_moves) f cdv A outer s H E) B (defBody s_moves) (t_moves K WD) := by
  refine dss_cons ?_ ?_
  refine ds_if ?_ ?_ ?_
  refine dt_cmp op_lt lr_I0 ?_ ?_ ?_
  refine de_bi (cr_len) lc_len ?_ ?_ ?_ ?_
  rfl
  exact c.free 45
  decide +kernel
  refine da_cons ?_ ?_
  exact dv 1
  exact da_nil
  exact dv 0
  rfl
  refine dss_one ?_
  refine ds_ret ?_
  refine de_lst ?_
  refine da_cons ?_ ?_
  refine de_ty (r := rTupleA K) (call_tuple_of) lc_tuple ?_ ?_ ?_ ?_
  rfl
  exact c.free 53
  decide +kernel
  refine da_cons ?_ ?_
  refine de_bi (cr_sortedTI) lc_sortTI ?_ ?_ ?_ ?_
  rfl
  exact c.free 51
  decide +kernel
  refine da_cons ?_ ?_
  refine de_op op_addA lr_add ?_ ?_
  exact dv 1
  refine de_tup ?_
  refine da_cons ?_ ?_
  exact dv 2
  exact da_nil
  exact da_nil
  exact da_nil
  exact da_nil
  exact dss_nil
  refine dss_one ?_
  refine ds_ret ?_
  refine de_lc (own := [("gone", 4)]) (g := (gName 4)) (tt := tYes) ?_ ?_ ?_ ?_ (fun _ _ _ _ _ => ?_) ?_ ?_ (fun _ _ _ _ _ => ?_) ?_ (fun _ _ _ _ _ => ?_)
  rfl
  exact sc_moves.nd
  refine di_tup ?_
  exact dv 1
  exact blkOk_by (N := N_moves) (sc := defScope s_moves) (own := [("gone", 4)]) (by decide +kernel)
  refine pg_name (i := 4) ?_ ?_ ?_
  exact sc_moves.nd
  rfl
  first | exact Or.inl rfl | exact Or.inr rfl
  exact lg_name
  exact ownG_name (by decide)
  exact pts_nil
  exact lt_yes
  refine de_ty (r := rTupleA K) (call_tuple_of) lc_tuple ?_ ?_ ?_ ?_
  rfl
  exact c.free 53
  decide +kernel
  refine da_cons ?_ ?_
  refine de_bi (id := "sorted") (r := rSortL K) ?_ ?_ ?_ ?_ ?_ ?_
  exact cr_sortL hr.units
  exact lc_sortL
  rfl
  exact c.free 51
  decide +kernel
  refine da_cons ?_ ?_
  refine de_op op_addA lr_add ?_ ?_
  refine de_lc (own := [("one", 3)]) (g := (gName 3)) (tt := (upT K B (dTest (dOp dNe (dVar 3) (dVar 4))))) ?_ ?_ ?_ ?_ (fun _ _ _ _ _ => ?_) ?_ ?_ (fun _ _ _ _ _ => ?_) ?_ (fun _ _ _ _ _ => ?_)
  rfl
  exact sc_moves.nd
  refine di_tup ?_
  exact dv 1
  exact blkOk_by (by rfl)
  refine pg_name (i := 3) ?_ ?_ ?_
  exact sc_moves.nd
  rfl
  first | exact Or.inl rfl | exact Or.inr rfl
  exact lg_name
  exact ownG_name (by decide)
  refine pts_oneU ?_
  refine dt_cmp (r := rNeA K) ?_ ?_ ?_ ?_ ?_
  exact op_neA hr.units
  exact lr_ne
  exact dv 3
  exact dv 4
  rfl
  exact upT_le
  exact dv 3
  refine de_lst ?_
  refine da_cons ?_ ?_
  exact dv 2
  exact da_nil
  exact da_nil
  exact da_nil
theorem dv_work_behind (c : Fx fa fn ex K mg) (o_moves : OkF P w K mg base 1 (He.fAd K d_moves.at_) ps_moves (dsp_moves K)) {qual : Str} {f : Addr} {cdv : Value} {A : Around} {outer : List Env} {s : Shared} {H B : Hp} {E : XK} {WD : XDW} (hr : Room 1 (A.deeper (envOfC qual (defScope s_work_behind) s.heap.objs.size f cdv))) (hx : XOk (cxOf (L2.CX P w) P w K mg base N_work_behind qual (defScope s_work_behind) f cdv A outer s H E) B WD) :
    DSs (cxOf (L2.CX P w) P w K mg base N_work_behind qual (defScope s_work_behind) f cdv A outer s H E) B (defBody s_work_behind) (t_work_behind K WD) := by
  refine dss_cons ?_ ?_
  refine ds_set (i := 4) ?_ ?_ ?_ ?_
  exact sc_work_behind.nd
  rfl
  first | exact Or.inl rfl | exact Or.inr rfl
  exact de_newN
  refine dss_cons ?_ ?_
  refine ds_for ?_ ?_ ?_ ?_ ?_
  exact passes_of rfl
  rfl
  refine di_itmN ?_
  exact dv 1
  refine dg_tup ?_ ?_
  rfl
  refine dgs_cons ?_ ?_
  refine dg_name (i := 5) ?_ ?_ ?_
  exact sc_work_behind.nd
  rfl
  first | exact Or.inl rfl | exact Or.inr rfl
  refine dgs_cons ?_ ?_
  refine dg_name (i := 6) ?_ ?_ ?_
  exact sc_work_behind.nd
  rfl
  first | exact Or.inl rfl | exact Or.inr rfl
  exact dgs_nil
  refine dss_one ?_
  refine ds_if ?_ ?_ ?_
  refine dt_cmp (r := rInA K id false) ?_ ?_ ?_ ?_ ?_
  exact op_inA (hu_of hr)
  exact lr_in
  exact dv 2
  exact dv 5
  rfl
  refine dss_one ?_
  refine ds_putN hr.units ?_ ?_ ?_
  exact dv 4
  exact dv 5
  refine de_bi (cr_min2 (by rfl)) lc_two ?_ ?_ ?_ ?_
  rfl
  exact c.free 48
  decide +kernel
  refine da_cons ?_ ?_
  refine de_get2N hr.units ?_ ?_
  exact dv 4
  refine da_cons ?_ ?_
  exact dv 5
  refine da_cons ?_ ?_
  exact dv 6
  exact da_nil
  refine da_cons ?_ ?_
  exact dv 6
  exact da_nil
  refine dss_one ?_
  refine ds_for ?_ ?_ ?_ ?_ ?_
  exact passes_of rfl
  rfl
  refine di_lst ?_
  refine de_cf (f := He.fAd K d_moves.at_) (ps := ps_moves) (k := 1) (j := 1) ?_ ?_ ?_ ?_ ?_
  exact o_moves
  exact hr
  exact c.glo 19
  exact hx
  refine da_cons ?_ ?_
  exact dv 0
  refine da_cons ?_ ?_
  exact dv 5
  refine da_cons ?_ ?_
  exact dv 2
  exact da_nil
  refine dg_name (i := 7) ?_ ?_ ?_
  exact sc_work_behind.nd
  rfl
  first | exact Or.inl rfl | exact Or.inr rfl
  refine dss_one ?_
  refine ds_putN hr.units ?_ ?_ ?_
  exact dv 4
  exact dv 7
  refine de_bi (cr_min2 (by rfl)) lc_two ?_ ?_ ?_ ?_
  rfl
  exact c.free 48
  decide +kernel
  refine da_cons ?_ ?_
  refine de_get2N hr.units ?_ ?_
  exact dv 4
  refine da_cons ?_ ?_
  exact dv 7
  refine da_cons ?_ ?_
  refine de_op op_addA lr_add ?_ ?_
  exact dv 6
  exact dv 3
  exact da_nil
  refine da_cons ?_ ?_
  refine de_op op_addA lr_add ?_ ?_
  exact dv 6
  exact dv 3
  exact da_nil
  refine dss_one ?_
  refine ds_ret ?_
  exact dv 4
theorem dv_works_of (c : Fx fa fn ex K mg) (o_work_behind : OkF P w K mg base 2 (He.fAd K d_work_behind.at_) ps_work_behind (dsp_work_behind K)) (o_cost_of : OkF P w K mg base 1 (He.fAd K d_cost_of.at_) ps_cost_of (dsp_cost_of K)) {qual : Str} {f : Addr} {cdv : Value} {A : Around} {outer : List Env} {s : Shared} {H B : Hp} {E : XK} {WD : XDW} (hr : Room 2 (A.deeper (envOfC qual (defScope s_works_of) s.heap.objs.size f cdv))) (hx : XOk (cxOf (L2.CX P w) P w K mg base N_works_of qual (defScope s_works_of) f cdv A outer s H E) B WD) :
    DSs (cxOf (L2.CX P w) P w K mg base N_works_of qual (defScope s_works_of) f cdv A outer s H E) B (defBody s_works_of) (t_works_of K WD) := by
  refine dss_cons ?_ ?_
  refine ds_set (i := 3) ?_ ?_ ?_ ?_
  exact sc_works_of.nd
  rfl
  first | exact Or.inl rfl | exact Or.inr rfl
  refine de_lst ?_
  refine da_cons ?_ ?_
  refine de_1N hr.units ?_ ?_
  refine de_tup ?_
  exact da_nil
  exact de_int
  exact da_nil
  refine dss_cons ?_ ?_
  refine ds_for ?_ ?_ ?_ ?_ ?_
  exact passes_of rfl
  rfl
  refine di_tup ?_
  exact dv 1
  refine dg_name (i := 4) ?_ ?_ ?_
  exact sc_works_of.nd
  rfl
  first | exact Or.inl rfl | exact Or.inr rfl
  refine dss_one ?_
  refine ds_expr ?_
  refine de_bm PySem.F.plainAttrs_list PySem.F.slot_list_append PySem.F.type_list_append mt_append lm_append ?_ ?_
  exact dv 3
  refine da_cons ?_ ?_
  refine de_cf (f := He.fAd K d_work_behind.at_) (ps := ps_work_behind) (k := 2) (j := 2) ?_ ?_ ?_ ?_ ?_
  exact o_work_behind
  exact hr
  exact c.glo 20
  exact hx
  refine da_cons ?_ ?_
  exact dv 0
  refine da_cons ?_ ?_
  refine de_ix ?_ ?_ ?_
  exact dv 3
  refine de_neg ?_
  exact de_int
  exact fun _ _ => rfl
  refine da_cons ?_ ?_
  exact dv 4
  refine da_cons ?_ ?_
  refine de_cf (f := He.fAd K d_cost_of.at_) (ps := ps_cost_of) (k := 1) (j := 2) ?_ ?_ ?_ ?_ ?_
  exact o_cost_of
  exact hr
  exact c.glo 18
  exact hx
  refine da_cons ?_ ?_
  exact dv 2
  refine da_cons ?_ ?_
  exact dv 4
  exact da_nil
  exact da_nil
  exact da_nil
  refine dss_one ?_
  refine ds_ret ?_
  exact dv 3
theorem dv_step_back (c : Fx fa fn ex K mg) (o_cost_of : OkF P w K mg base 1 (He.fAd K d_cost_of.at_) ps_cost_of (dsp_cost_of K)) (o_moves : OkF P w K mg base 1 (He.fAd K d_moves.at_) ps_moves (dsp_moves K)) {qual : Str} {f : Addr} {cdv : Value} {A : Around} {outer : List Env} {s : Shared} {H B : Hp} {E : XK} {WD : XDW} (hr : Room 1 (A.deeper (envOfC qual (defScope s_step_back) s.heap.objs.size f cdv))) (hx : XOk (cxOf (L2.CX P w) P w K mg base N_step_back qual (defScope s_step_back) f cdv A outer s H E) B WD) :
    DSs (cxOf (L2.CX P w) P w K mg base N_step_back qual (defScope s_step_back) f cdv A outer s H E) B (defBody s_step_back) (t_step_back K WD) := by
  refine dss_cons ?_ ?_
  refine ds_if ?_ ?_ ?_
  refine DW.dt ?_
  refine dw_and ?_ ?_
  refine dt_cmp (r := rEqA K) ?_ ?_ ?_ ?_ ?_
  exact op_eqA hr.units
  exact lr_eq
  refine de_get2N hr.units ?_ ?_
  exact dv 1
  refine da_cons ?_ ?_
  exact dv 3
  refine da_cons ?_ ?_
  exact de_non
  exact da_nil
  exact dv 2
  rfl
  refine dw_and1 ?_
  refine dt_cmp (r := rInA K id false) ?_ ?_ ?_ ?_ ?_
  exact op_inA (hu_of hr)
  exact lr_in
  exact dv 4
  exact dv 3
  rfl
  refine dss_one ?_
  refine ds_ret ?_
  refine de_tup ?_
  refine da_cons ?_ ?_
  exact dv 3
  refine da_cons ?_ ?_
  exact de_non
  exact da_nil
  exact dss_nil
  refine dss_cons ?_ ?_
  refine ds_for ?_ ?_ ?_ ?_ ?_
  exact passes_of rfl
  rfl
  refine di_lst ?_
  refine de_bi (id := "sorted") (r := rSortN K) ?_ ?_ ?_ ?_ ?_ ?_
  exact cr_sortN (by rfl) hr.units
  exact lc_sortN
  rfl
  exact c.free 51
  decide +kernel
  refine da_cons ?_ ?_
  exact dv 1
  exact da_nil
  refine dg_name (i := 6) ?_ ?_ ?_
  exact sc_step_back.nd
  rfl
  first | exact Or.inl rfl | exact Or.inr rfl
  refine dss_one ?_
  refine ds_if ?_ ?_ ?_
  refine DW.dt ?_
  refine dw_and ?_ ?_
  refine dt_cmp (r := rInA K not true) ?_ ?_ ?_ ?_ ?_
  exact op_notinA (hu_of hr)
  exact lr_notin
  exact dv 4
  exact dv 6
  rfl
  refine dw_and ?_ ?_
  refine dt_cmp (r := rEqA K) ?_ ?_ ?_ ?_ ?_
  exact op_eqA hr.units
  exact lr_eq
  refine de_op op_addA lr_add ?_ ?_
  refine de_getN hr.units ?_ ?_ ?_
  exact dv 1
  exact dv 6
  exact fun _ _ => rfl
  refine de_cf (f := He.fAd K d_cost_of.at_) (ps := ps_cost_of) (k := 1) (j := 1) ?_ ?_ ?_ ?_ ?_
  exact o_cost_of
  exact hr
  exact c.glo 18
  exact hx
  refine da_cons ?_ ?_
  exact dv 5
  refine da_cons ?_ ?_
  exact dv 4
  exact da_nil
  exact dv 2
  rfl
  refine dw_and1 ?_
  refine dt_cmp (r := rInD K) ?_ ?_ ?_ ?_ ?_
  exact op_inD (u65_of hr)
  exact lr_inD
  exact dv 3
  refine de_cf (f := He.fAd K d_moves.at_) (ps := ps_moves) (k := 1) (j := 1) ?_ ?_ ?_ ?_ ?_
  exact o_moves
  exact hr
  exact c.glo 19
  exact hx
  refine da_cons ?_ ?_
  exact dv 0
  refine da_cons ?_ ?_
  exact dv 6
  refine da_cons ?_ ?_
  exact dv 4
  exact da_nil
  rfl
  refine dss_cons ?_ ?_
  refine ds_setLc (i := 7) (own := [("one", 8)]) (g := (gName 8)) (tt := (upT K B (dTest (dOp dNotin (dVar 8) (dVar 3))))) ?_ ?_ ?_ ?_ ?_ ?_ ?_ (fun _ _ _ _ _ => ?_) ?_ ?_ (fun _ _ _ _ _ => ?_) ?_ (fun _ _ _ _ _ => ?_)
  rfl
  exact sc_step_back.nd
  rfl
  rfl
  exact sw_true rfl rfl rfl (by decide +kernel)
  refine di_tup ?_
  exact dv 6
  exact blkOk_by (N := N_step_back) (sc := defScope s_step_back) (own := [("one", 8)]) (by decide +kernel)
  refine pg_name (i := 8) ?_ ?_ ?_
  exact sc_step_back.nd
  rfl
  first | exact Or.inl rfl | exact Or.inr rfl
  exact lg_name
  exact ownG_name (by decide)
  refine pts_oneU ?_
  refine dt_cmp (r := rInA K not true) ?_ ?_ ?_ ?_ ?_
  exact op_notinA (hu_of hr)
  exact lr_notin
  exact dv 8
  exact dv 3
  rfl
  exact upT_le
  exact dv 8
  refine dss_one ?_
  refine ds_ret ?_
  refine de_tup ?_
  refine da_cons ?_ ?_
  exact dv 6
  refine da_cons ?_ ?_
  refine de_if ?_ ?_ ?_
  refine dt_cmp (r := rNeA K) ?_ ?_ ?_ ?_ ?_
  exact op_neA hr.units
  exact lr_ne
  exact dv 7
  refine de_lst ?_
  exact da_nil
  rfl
  refine de_ix ?_ ?_ ?_
  exact dv 7
  exact de_int
  exact fun _ _ => rfl
  exact de_non
  exact da_nil
  exact dss_nil
  refine dss_one ?_
  refine ds_ret ?_
  refine de_tup ?_
  refine da_cons ?_ ?_
  exact dv 3
  refine da_cons ?_ ?_
  exact de_non
  exact da_nil
theorem dv_cheapest (c : Fx fa fn ex K mg) (o_need_size : OkF P w K mg base 2 (He.fAd K d_need_size.at_) ps_need_size (dsp_need_size K)) (o_need_stream : OkF P w K mg base 2 (He.fAd K d_need_stream.at_) ps_need_stream (dsp_need_stream K)) (o_need_costs : OkF P w K mg base 2 (He.fAd K d_need_costs.at_) ps_need_costs (dsp_need_costs K)) (o_works_of : OkF P w K mg base 3 (He.fAd K d_works_of.at_) ps_works_of (dsp_works_of K)) (o_step_back : OkF P w K mg base 2 (He.fAd K d_step_back.at_) ps_step_back (dsp_step_back K)) {qual : Str} {f : Addr} {cdv : Value} {A : Around} {outer : List Env} {s : Shared} {H B : Hp} {E : XK} {WD : XDW} (hr : Room 3 (A.deeper (envOfC qual (defScope s_cheapest) s.heap.objs.size f cdv))) (hx : XOk (cxOf (L2.CX P w) P w K mg base N_cheapest qual (defScope s_cheapest) f cdv A outer s H E) B WD) :
    DSs (cxOf (L2.CX P w) P w K mg base N_cheapest qual (defScope s_cheapest) f cdv A outer s H E) B (defBody s_cheapest) (t_cheapest K WD) := by
  refine dss_cons ?_ ?_
  refine ds_expr ?_
  refine de_cf (f := He.fAd K d_need_size.at_) (ps := ps_need_size) (k := 2) (j := 3) ?_ ?_ ?_ ?_ ?_
  exact o_need_size
  exact hr
  exact c.glo 8
  exact hx
  refine da_cons ?_ ?_
  exact dv 0
  exact da_nil
  refine dss_cons ?_ ?_
  refine ds_expr ?_
  refine de_cf (f := He.fAd K d_need_stream.at_) (ps := ps_need_stream) (k := 2) (j := 3) ?_ ?_ ?_ ?_ ?_
  exact o_need_stream
  exact hr
  exact c.glo 9
  exact hx
  refine da_cons ?_ ?_
  exact dv 1
  exact da_nil
  refine dss_cons ?_ ?_
  refine ds_expr ?_
  refine de_cf (f := He.fAd K d_need_costs.at_) (ps := ps_need_costs) (k := 2) (j := 3) ?_ ?_ ?_ ?_ ?_
  exact o_need_costs
  exact hr
  exact c.glo 17
  exact hx
  refine da_cons ?_ ?_
  exact dv 2
  exact da_nil
  refine dss_cons ?_ ?_
  refine ds_set (i := 3) ?_ ?_ ?_ ?_
  exact sc_cheapest.nd
  rfl
  first | exact Or.inl rfl | exact Or.inr rfl
  refine de_cf (f := He.fAd K d_works_of.at_) (ps := ps_works_of) (k := 3) (j := 3) ?_ ?_ ?_ ?_ ?_
  exact o_works_of
  exact hr
  exact c.glo 21
  exact hx
  refine da_cons ?_ ?_
  exact dv 0
  refine da_cons ?_ ?_
  exact dv 1
  refine da_cons ?_ ?_
  exact dv 2
  exact da_nil
  refine dss_cons ?_ ?_
  refine ds_set (i := 4) ?_ ?_ ?_ ?_
  exact sc_cheapest.nd
  rfl
  first | exact Or.inl rfl | exact Or.inr rfl
  refine de_bi (cr_minVI (by rfl)) lc_minVI ?_ ?_ ?_ ?_
  rfl
  exact c.free 48
  decide +kernel
  refine da_cons ?_ ?_
  refine de_vals ?_
  refine de_ix ?_ ?_ ?_
  exact dv 3
  refine de_neg ?_
  exact de_int
  exact fun _ _ => rfl
  exact da_nil
  refine dss_cons ?_ ?_
  refine ds_set (i := 5) ?_ ?_ ?_ ?_
  exact sc_cheapest.nd
  rfl
  first | exact Or.inl rfl | exact Or.inr rfl
  refine de_bi (id := "min") (r := rBest K PySem.W.minD) ?_ ?_ ?_ ?_ ?_ ?_
  exact cr_minL hr.units rfl
  exact lc_best
  rfl
  exact c.free 48
  decide +kernel
  refine da_cons ?_ ?_
  refine de_lc (own := [("one", 6)]) (g := (gName 6)) (tt := (upT K B (dTest (dOp dEq (dOp (dGetN K) (dOp dIx (dVar 3) (dNeg (dC (dI 1)))) (dVar 6)) (dVar 4))))) ?_ ?_ ?_ ?_ (fun _ _ _ _ _ => ?_) ?_ ?_ (fun _ _ _ _ _ => ?_) ?_ (fun _ _ _ _ _ => ?_)
  rfl
  exact sc_cheapest.nd
  refine di_kysN ?_
  refine de_ix ?_ ?_ ?_
  exact dv 3
  refine de_neg ?_
  exact de_int
  exact fun _ _ => rfl
  exact blkOk_by (N := N_cheapest) (sc := defScope s_cheapest) (own := [("one", 6)]) (by decide +kernel)
  refine pg_name (i := 6) ?_ ?_ ?_
  exact sc_cheapest.nd
  rfl
  first | exact Or.inl rfl | exact Or.inr rfl
  exact lg_name
  exact ownG_name (by decide)
  refine pts_oneU ?_
  refine dt_cmp (r := rEqA K) ?_ ?_ ?_ ?_ ?_
  exact op_eqA hr.units
  exact lr_eq
  refine de_getN hr.units ?_ ?_ ?_
  refine de_ix ?_ ?_ ?_
  exact dv 3
  refine de_neg ?_
  exact de_int
  exact fun _ _ => rfl
  exact dv 6
  exact fun _ _ => rfl
  exact dv 4
  rfl
  exact upT_le
  exact dv 6
  exact da_nil
  refine dss_cons ?_ ?_
  refine ds_set (i := 7) ?_ ?_ ?_ ?_
  exact sc_cheapest.nd
  rfl
  first | exact Or.inl rfl | exact Or.inr rfl
  refine de_lst ?_
  exact da_nil
  refine dss_cons ?_ ?_
  refine ds_for ?_ ?_ ?_ ?_ ?_
  exact passes_of rfl
  rfl
  refine di_down ?_ ?_ ?_
  rfl
  exact c.free 49
  refine da_cons ?_ ?_
  refine de_op op_sub lr_I0 ?_ ?_
  refine de_bi (cr_len) lc_len ?_ ?_ ?_ ?_
  rfl
  exact c.free 45
  decide +kernel
  refine da_cons ?_ ?_
  exact dv 1
  exact da_nil
  exact de_int
  refine da_cons ?_ ?_
  refine de_neg ?_
  exact de_int
  refine da_cons ?_ ?_
  refine de_neg ?_
  exact de_int
  exact da_nil
  refine dg_name (i := 8) ?_ ?_ ?_
  exact sc_cheapest.nd
  rfl
  first | exact Or.inl rfl | exact Or.inr rfl
  refine dss_cons ?_ ?_
  refine ds_asg ?_ ?_
  refine de_cf (f := He.fAd K d_step_back.at_) (ps := ps_step_back) (k := 2) (j := 3) ?_ ?_ ?_ ?_ ?_
  exact o_step_back
  exact hr
  exact c.glo 23
  exact hx
  refine da_cons ?_ ?_
  exact dv 0
  refine da_cons ?_ ?_
  refine de_ix ?_ ?_ ?_
  exact dv 3
  exact dv 8
  exact fun _ _ => rfl
  refine da_cons ?_ ?_
  refine de_getN hr.units ?_ ?_ ?_
  refine de_ix ?_ ?_ ?_
  exact dv 3
  refine de_op op_addA lr_add ?_ ?_
  exact dv 8
  exact de_int
  exact fun _ _ => rfl
  exact dv 5
  exact fun _ _ => rfl
  refine da_cons ?_ ?_
  exact dv 5
  refine da_cons ?_ ?_
  refine de_ix ?_ ?_ ?_
  exact dv 1
  exact dv 8
  exact fun _ _ => rfl
  refine da_cons ?_ ?_
  exact dv 2
  exact da_nil
  refine dg_tup ?_ ?_
  rfl
  refine dgs_cons ?_ ?_
  refine dg_name (i := 5) ?_ ?_ ?_
  exact sc_cheapest.nd
  rfl
  first | exact Or.inl rfl | exact Or.inr rfl
  refine dgs_cons ?_ ?_
  refine dg_name (i := 9) ?_ ?_ ?_
  exact sc_cheapest.nd
  rfl
  first | exact Or.inl rfl | exact Or.inr rfl
  exact dgs_nil
  refine dss_one ?_
  refine ds_expr ?_
  refine de_bm PySem.F.plainAttrs_list PySem.F.slot_list_append PySem.F.type_list_append mt_append lm_append ?_ ?_
  exact dv 7
  refine da_cons ?_ ?_
  exact dv 9
  exact da_nil
  refine dss_one ?_
  refine ds_ret ?_
  refine de_tup ?_
  refine da_cons ?_ ?_
  exact dv 4
  refine da_cons ?_ ?_
  refine de_rev ?_
  exact dv 7
  exact da_nil
theorem dv_next_ask (c : Fx fa fn ex K mg) {qual : Str} {f : Addr} {cdv : Value} {A : Around} {outer : List Env} {s : Shared} {H B : Hp} {E : XK} {WD : XDW} (hr : Room 0 (A.deeper (envOfC qual (defScope s_next_ask) s.heap.objs.size f cdv))) (hx : XOk (cxOf (L2.CX P w) P w K mg base N_next_ask qual (defScope s_next_ask) f cdv A outer s H E) B WD) :
    DSs (cxOf (L2.CX P w) P w K mg base N_next_ask qual (defScope s_next_ask) f cdv A outer s H E) B (defBody s_next_ask) (t_next_ask K WD) := by
  refine dss_cons ?_ ?_
  refine ds_for ?_ ?_ ?_ ?_ ?_
  exact passes_of rfl
  rfl
  refine di_range2 ?_ ?_ ?_
  rfl
  exact c.free 49
  refine da_cons ?_ ?_
  refine de_op op_addA lr_add ?_ ?_
  exact dv 1
  exact de_int
  refine da_cons ?_ ?_
  refine de_bi (cr_len) lc_len ?_ ?_ ?_ ?_
  rfl
  exact c.free 45
  decide +kernel
  refine da_cons ?_ ?_
  exact dv 0
  exact da_nil
  exact da_nil
  refine dg_name (i := 3) ?_ ?_ ?_
  exact sc_next_ask.nd
  rfl
  first | exact Or.inl rfl | exact Or.inr rfl
  refine dss_one ?_
  refine ds_if ?_ ?_ ?_
  refine dt_cmp (r := rEqA K) ?_ ?_ ?_ ?_ ?_
  exact op_eqA hr.units
  exact lr_eq
  refine de_ix ?_ ?_ ?_
  exact dv 0
  exact dv 3
  exact fun _ _ => rfl
  exact dv 2
  rfl
  refine dss_one ?_
  refine ds_ret ?_
  exact dv 3
  exact dss_nil
  refine dss_one ?_
  refine ds_ret ?_
  refine de_bi (cr_len) lc_len ?_ ?_ ?_ ?_
  rfl
  exact c.free 45
  decide +kernel
  refine da_cons ?_ ?_
  exact dv 0
  exact da_nil
theorem dv_farthest (c : Fx fa fn ex K mg) (o_need_size : OkF P w K mg base 2 (He.fAd K d_need_size.at_) ps_need_size (dsp_need_size K)) (o_need_stream : OkF P w K mg base 2 (He.fAd K d_need_stream.at_) ps_need_stream (dsp_need_stream K)) (o_next_ask : OkF P w K mg base 1 (He.fAd K d_next_ask.at_) ps_next_ask (dsp_next_ask K)) {qual : Str} {f : Addr} {cdv : Value} {A : Around} {outer : List Env} {s : Shared} {H B : Hp} {E : XK} {WD : XDW} (hr : Room 2 (A.deeper (envOfC qual (defScope s_farthest) s.heap.objs.size f cdv))) (hx : XOk (cxOf (L2.CX P w) P w K mg base N_farthest qual (defScope s_farthest) f cdv A outer s H E) B WD) :
    DSs (cxOf (L2.CX P w) P w K mg base N_farthest qual (defScope s_farthest) f cdv A outer s H E) B (defBody s_farthest) (t_farthest K WD) := by
  refine dss_cons ?_ ?_
  refine ds_expr ?_
  refine de_cf (f := He.fAd K d_need_size.at_) (ps := ps_need_size) (k := 2) (j := 2) ?_ ?_ ?_ ?_ ?_
  exact o_need_size
  exact hr
  exact c.glo 8
  exact hx
  refine da_cons ?_ ?_
  exact dv 0
  exact da_nil
  refine dss_cons ?_ ?_
  refine ds_expr ?_
  refine de_cf (f := He.fAd K d_need_stream.at_) (ps := ps_need_stream) (k := 2) (j := 2) ?_ ?_ ?_ ?_ ?_
  exact o_need_stream
  exact hr
  exact c.glo 9
  exact hx
  refine da_cons ?_ ?_
  exact dv 1
  exact da_nil
  refine dss_cons ?_ ?_
  refine ds_par3 (i := 2) (j := 3) (l := 4) ?_ ?_ ?_ ?_ ?_ ?_ ?_ ?_ ?_ ?_ ?_ ?_ ?_
  rfl
  exact sc_farthest.nd
  rfl
  rfl
  rfl
  decide
  decide
  decide
  rfl
  rfl
  rfl
  refine da_cons ?_ ?_
  refine de_lst ?_
  exact da_nil
  refine da_cons ?_ ?_
  refine de_lst ?_
  exact da_nil
  refine da_cons ?_ ?_
  exact de_int
  exact da_nil
  rfl
  refine dss_cons ?_ ?_
  refine ds_for ?_ ?_ ?_ ?_ ?_
  exact passes_of rfl
  rfl
  refine di_enumT ?_ ?_ ?_
  rfl
  exact c.free 42
  refine da_cons ?_ ?_
  exact dv 1
  exact da_nil
  refine dg_tup ?_ ?_
  rfl
  refine dgs_cons ?_ ?_
  refine dg_name (i := 5) ?_ ?_ ?_
  exact sc_farthest.nd
  rfl
  first | exact Or.inl rfl | exact Or.inr rfl
  refine dgs_cons ?_ ?_
  refine dg_name (i := 6) ?_ ?_ ?_
  exact sc_farthest.nd
  rfl
  first | exact Or.inl rfl | exact Or.inr rfl
  exact dgs_nil
  refine dss_cons ?_ ?_
  refine ds_set (i := 7) ?_ ?_ ?_ ?_
  exact sc_farthest.nd
  rfl
  first | exact Or.inl rfl | exact Or.inr rfl
  exact de_non
  refine dss_cons ?_ ?_
  refine ds_if ?_ ?_ ?_
  refine dt_cmp (r := rInA K not true) ?_ ?_ ?_ ?_ ?_
  exact op_notinA (hu_of hr)
  exact lr_notin
  exact dv 6
  exact dv 2
  rfl
  refine dss_cons ?_ ?_
  refine ds_aug (i := 4) (g := (fun i j => i + j)) ?_ ?_ ?_ ?_ ?_
  exact sc_farthest.nd
  rfl
  first | exact Or.inl rfl | exact Or.inr rfl
  exact de_int
  exact ip_add
  refine dss_cons ?_ ?_
  refine ds_if ?_ ?_ ?_
  refine dt_cmp (r := rEqA K) ?_ ?_ ?_ ?_ ?_
  exact op_eqA hr.units
  exact lr_eq
  refine de_bi (cr_len) lc_len ?_ ?_ ?_ ?_
  rfl
  exact c.free 45
  decide +kernel
  refine da_cons ?_ ?_
  exact dv 2
  exact da_nil
  exact dv 0
  rfl
  refine dss_cons ?_ ?_
  refine ds_set (i := 7) ?_ ?_ ?_ ?_
  exact sc_farthest.nd
  rfl
  first | exact Or.inl rfl | exact Or.inr rfl
  refine de_ix ?_ ?_ ?_
  refine de_bi (id := "min") (r := rBest K PySem.W.minD) ?_ ?_ ?_ ?_ ?_ ?_
  exact cr_minL hr.units rfl
  exact lc_best
  rfl
  exact c.free 48
  decide +kernel
  refine da_cons ?_ ?_
  refine de_lc (own := [("one", 8)]) (g := (gName 8)) (tt := tYes) ?_ ?_ ?_ ?_ (fun _ _ _ _ _ => ?_) ?_ ?_ (fun _ _ _ _ _ => ?_) ?_ (fun _ _ _ _ _ => ?_)
  rfl
  exact sc_farthest.nd
  refine di_lst ?_
  exact dv 2
  exact blkOk_by (N := N_farthest) (sc := defScope s_farthest) (own := [("one", 8)]) (by decide +kernel)
  refine pg_name (i := 8) ?_ ?_ ?_
  exact sc_farthest.nd
  rfl
  first | exact Or.inl rfl | exact Or.inr rfl
  exact lg_name
  exact ownG_name (by decide)
  exact pts_nil
  exact lt_yes
  refine de_tup ?_
  refine da_cons ?_ ?_
  refine de_op op_sub lr_I0 ?_ ?_
  exact de_int
  refine de_cf (f := He.fAd K d_next_ask.at_) (ps := ps_next_ask) (k := 1) (j := 2) ?_ ?_ ?_ ?_ ?_
  exact o_next_ask
  exact hr
  exact c.glo 24
  exact xok_no
  refine da_cons ?_ ?_
  exact dv 1
  refine da_cons ?_ ?_
  exact dv 5
  refine da_cons ?_ ?_
  exact dv 8
  exact da_nil
  refine da_cons ?_ ?_
  exact dv 8
  exact da_nil
  exact da_nil
  exact de_int
  exact fun _ _ => rfl
  refine dss_one ?_
  refine ds_expr ?_
  refine de_bm PySem.F.plainAttrs_list PySem.F.slot_list_remove PySem.F.type_list_remove mt_remove lm_remove ?_ ?_
  exact dv 2
  refine da_cons ?_ ?_
  exact dv 7
  exact da_nil
  exact dss_nil
  refine dss_one ?_
  refine ds_expr ?_
  refine de_bm PySem.F.plainAttrs_list PySem.F.slot_list_append PySem.F.type_list_append mt_append lm_append ?_ ?_
  exact dv 2
  refine da_cons ?_ ?_
  exact dv 6
  exact da_nil
  exact dss_nil
  refine dss_one ?_
  refine ds_expr ?_
  refine de_bm PySem.F.plainAttrs_list PySem.F.slot_list_append PySem.F.type_list_append mt_append lm_append ?_ ?_
  exact dv 3
  refine da_cons ?_ ?_
  exact dv 7
  exact da_nil
  refine dss_one ?_
  refine ds_ret ?_
  refine de_tup ?_
  refine da_cons ?_ ?_
  exact dv 4
  refine da_cons ?_ ?_
  exact dv 3
  exact da_nil
theorem dv_run_by (c : Fx fa fn ex K mg) (o_started : OkF P w K mg base 1 (He.fAd K d_started.at_) ps_started (dsp_started K)) (o_asked : OkF P w K mg base 3 (He.fAd K d_asked.at_) ps_asked (dsp_asked K)) {qual : Str} {f : Addr} {cdv : Value} {A : Around} {outer : List Env} {s : Shared} {H B : Hp} {E : XK} {WD : XDW} (hr : Room 3 (A.deeper (envOfC qual (defScope s_run_by) s.heap.objs.size f cdv))) (hx : XOk (cxOf (L2.CX P w) P w K mg base N_run_by qual (defScope s_run_by) f cdv A outer s H E) B WD) :
    DSs (cxOf (L2.CX P w) P w K mg base N_run_by qual (defScope s_run_by) f cdv A outer s H E) B (defBody s_run_by) (t_run_by K WD) := by
  refine dss_cons ?_ ?_
  refine ds_par (i := 3) (j := 4) ?_ ?_ ?_ ?_ ?_ ?_ ?_ ?_ ?_
  rfl
  exact sc_run_by.nd
  rfl
  rfl
  decide
  rfl
  rfl
  refine da_cons ?_ ?_
  refine de_cf0 (f := He.fAd K d_started.at_) (ps := ps_started) (k := 1) (j := 3) ?_ ?_ ?_ ?_
  exact o_started
  exact hr
  exact c.glo 11
  exact hx
  refine da_cons ?_ ?_
  refine de_lst ?_
  exact da_nil
  exact da_nil
  rfl
  refine dss_cons ?_ ?_
  refine ds_for ?_ ?_ ?_ ?_ ?_
  exact passes_of rfl
  rfl
  refine di_tup ?_
  exact dv 2
  refine dg_name (i := 5) ?_ ?_ ?_
  exact sc_run_by.nd
  rfl
  first | exact Or.inl rfl | exact Or.inr rfl
  refine dss_cons ?_ ?_
  refine ds_asg ?_ ?_
  refine de_cf (f := He.fAd K d_asked.at_) (ps := ps_asked) (k := 3) (j := 3) ?_ ?_ ?_ ?_ ?_
  exact o_asked
  exact hr
  exact c.glo 16
  exact hx
  refine da_cons ?_ ?_
  exact dv 0
  refine da_cons ?_ ?_
  exact dv 1
  refine da_cons ?_ ?_
  exact dv 3
  refine da_cons ?_ ?_
  exact dv 5
  exact da_nil
  refine dg_tup ?_ ?_
  rfl
  refine dgs_cons ?_ ?_
  refine dg_name (i := 3) ?_ ?_ ?_
  exact sc_run_by.nd
  rfl
  first | exact Or.inl rfl | exact Or.inr rfl
  refine dgs_cons ?_ ?_
  refine dg_name (i := 6) ?_ ?_ ?_
  exact sc_run_by.nd
  rfl
  first | exact Or.inl rfl | exact Or.inr rfl
  refine dgs_cons ?_ ?_
  refine dg_name (i := 7) ?_ ?_ ?_
  exact sc_run_by.nd
  rfl
  first | exact Or.inl rfl | exact Or.inr rfl
  exact dgs_nil
  refine dss_one ?_
  refine ds_expr ?_
  refine de_bm PySem.F.plainAttrs_list PySem.F.slot_list_append PySem.F.type_list_append mt_append lm_append ?_ ?_
  exact dv 4
  refine da_cons ?_ ?_
  refine de_tup ?_
  refine da_cons ?_ ?_
  exact dv 6
  refine da_cons ?_ ?_
  exact dv 7
  exact da_nil
  exact da_nil
  refine dss_one ?_
  refine ds_ret ?_
  refine de_tup ?_
  refine da_cons ?_ ?_
  exact dv 4
  refine da_cons ?_ ?_
  exact dv 3
  exact da_nil
theorem dv_misses_in (c : Fx fa fn ex K mg) {qual : Str} {f : Addr} {cdv : Value} {A : Around} {outer : List Env} {s : Shared} {H B : Hp} {E : XK} {WD : XDW} (hr : Room 0 (A.deeper (envOfC qual (defScope s_misses_in) s.heap.objs.size f cdv))) (hx : XOk (cxOf (L2.CX P w) P w K mg base N_misses_in qual (defScope s_misses_in) f cdv A outer s H E) B WD) :
    DSs (cxOf (L2.CX P w) P w K mg base N_misses_in qual (defScope s_misses_in) f cdv A outer s H E) B (defBody s_misses_in) (t_misses_in K WD) := by
  refine dss_one ?_
  refine ds_ret ?_
  refine de_bi (cr_len) lc_len ?_ ?_ ?_ ?_
  rfl
  exact c.free 45
  decide +kernel
  refine da_cons ?_ ?_
  refine de_lc (own := [("row", 1)]) (g := (gName 1)) (tt := (upT K B (dNot (dTest (dOp dIx (dVar 1) (dC (dI 0))))))) ?_ ?_ ?_ ?_ (fun _ _ _ _ _ => ?_) ?_ ?_ (fun _ _ _ _ _ => ?_) ?_ (fun _ _ _ _ _ => ?_)
  rfl
  exact sc_misses_in.nd
  refine di_lst ?_
  exact dv 0
  exact blkOk_by (N := N_misses_in) (sc := defScope s_misses_in) (own := [("row", 1)]) (by decide +kernel)
  refine pg_name (i := 1) ?_ ?_ ?_
  exact sc_misses_in.nd
  rfl
  first | exact Or.inl rfl | exact Or.inr rfl
  exact lg_name
  exact ownG_name (by decide)
  refine pts_oneU ?_
  refine dt_not ?_
  refine dt_val ?_
  refine de_ix ?_ ?_ ?_
  exact dv 1
  exact de_int
  exact fun _ _ => rfl
  exact upT_le
  exact dv 1
  exact da_nil
theorem dv_run (c : Fx fa fn ex K mg) (o_need_rule : OkF P w K mg base 1 (He.fAd K d_need_rule.at_) ps_need_rule (dsp_need_rule K)) (o_need_size : OkF P w K mg base 2 (He.fAd K d_need_size.at_) ps_need_size (dsp_need_size K)) (o_need_stream : OkF P w K mg base 2 (He.fAd K d_need_stream.at_) ps_need_stream (dsp_need_stream K)) (o_run_by : OkF P w K mg base 4 (He.fAd K d_run_by.at_) ps_run_by (dsp_run_by K)) (o_misses_in : OkF P w K mg base 1 (He.fAd K d_misses_in.at_) ps_misses_in (dsp_misses_in K)) (o_pages_of : OkF P w K mg base 1 (He.fAd K d_pages_of.at_) ps_pages_of (dsp_pages_of K)) {qual : Str} {f : Addr} {cdv : Value} {A : Around} {outer : List Env} {s : Shared} {H B : Hp} {E : XK} {WD : XDW} (hr : Room 4 (A.deeper (envOfC qual (defScope s_run) s.heap.objs.size f cdv))) (hx : XOk (cxOf (L2.CX P w) P w K mg base N_run qual (defScope s_run) f cdv A outer s H E) B WD) :
    DSs (cxOf (L2.CX P w) P w K mg base N_run qual (defScope s_run) f cdv A outer s H E) B (defBody s_run) (t_run K WD) := by
  refine dss_cons ?_ ?_
  refine ds_expr ?_
  refine de_cf (f := He.fAd K d_need_rule.at_) (ps := ps_need_rule) (k := 1) (j := 4) ?_ ?_ ?_ ?_ ?_
  exact o_need_rule
  exact hr
  exact c.glo 7
  exact hx
  refine da_cons ?_ ?_
  exact dv 0
  exact da_nil
  refine dss_cons ?_ ?_
  refine ds_expr ?_
  refine de_cf (f := He.fAd K d_need_size.at_) (ps := ps_need_size) (k := 2) (j := 4) ?_ ?_ ?_ ?_ ?_
  exact o_need_size
  exact hr
  exact c.glo 8
  exact hx
  refine da_cons ?_ ?_
  exact dv 1
  exact da_nil
  refine dss_cons ?_ ?_
  refine ds_expr ?_
  refine de_cf (f := He.fAd K d_need_stream.at_) (ps := ps_need_stream) (k := 2) (j := 4) ?_ ?_ ?_ ?_ ?_
  exact o_need_stream
  exact hr
  exact c.glo 9
  exact hx
  refine da_cons ?_ ?_
  exact dv 2
  exact da_nil
  refine dss_cons ?_ ?_
  refine ds_asg ?_ ?_
  refine de_cf (f := He.fAd K d_run_by.at_) (ps := ps_run_by) (k := 4) (j := 4) ?_ ?_ ?_ ?_ ?_
  exact o_run_by
  exact hr
  exact c.glo 26
  exact hx
  refine da_cons ?_ ?_
  exact dv 0
  refine da_cons ?_ ?_
  exact dv 1
  refine da_cons ?_ ?_
  exact dv 2
  exact da_nil
  refine dg_tup ?_ ?_
  rfl
  refine dgs_cons ?_ ?_
  refine dg_name (i := 3) ?_ ?_ ?_
  exact sc_run.nd
  rfl
  first | exact Or.inl rfl | exact Or.inr rfl
  refine dgs_cons ?_ ?_
  refine dg_name (i := 4) ?_ ?_ ?_
  exact sc_run.nd
  rfl
  first | exact Or.inl rfl | exact Or.inr rfl
  exact dgs_nil
  refine dss_one ?_
  refine ds_ret ?_
  refine de_tup ?_
  refine da_cons ?_ ?_
  refine de_cf (f := He.fAd K d_misses_in.at_) (ps := ps_misses_in) (k := 1) (j := 4) ?_ ?_ ?_ ?_ ?_
  exact o_misses_in
  exact hr
  exact c.glo 28
  exact hx
  refine da_cons ?_ ?_
  exact dv 3
  exact da_nil
  refine da_cons ?_ ?_
  exact dv 3
  refine da_cons ?_ ?_
  refine de_ty (r := rTupleA K) (call_tuple_of) lc_tuple ?_ ?_ ?_ ?_
  rfl
  exact c.free 53
  decide +kernel
  refine da_cons ?_ ?_
  refine de_bi (id := "sorted") (r := rSortL K) ?_ ?_ ?_ ?_ ?_ ?_
  exact cr_sortL hr.units
  exact lc_sortL
  rfl
  exact c.free 51
  decide +kernel
  refine da_cons ?_ ?_
  refine de_cf (f := He.fAd K d_pages_of.at_) (ps := ps_pages_of) (k := 1) (j := 4) ?_ ?_ ?_ ?_ ?_
  exact o_pages_of
  exact hr
  exact c.glo 10
  exact hx
  refine da_cons ?_ ?_
  exact dv 4
  exact da_nil
  exact da_nil
  exact da_nil
  exact da_nil
theorem dv_misses_by (c : Fx fa fn ex K mg) (o_misses_in : OkF P w K mg base 1 (He.fAd K d_misses_in.at_) ps_misses_in (dsp_misses_in K)) (o_run_by : OkF P w K mg base 4 (He.fAd K d_run_by.at_) ps_run_by (dsp_run_by K)) {qual : Str} {f : Addr} {cdv : Value} {A : Around} {outer : List Env} {s : Shared} {H B : Hp} {E : XK} {WD : XDW} (hr : Room 4 (A.deeper (envOfC qual (defScope s_misses_by) s.heap.objs.size f cdv))) (hx : XOk (cxOf (L2.CX P w) P w K mg base N_misses_by qual (defScope s_misses_by) f cdv A outer s H E) B WD) :
    DSs (cxOf (L2.CX P w) P w K mg base N_misses_by qual (defScope s_misses_by) f cdv A outer s H E) B (defBody s_misses_by) (t_misses_by K WD) := by
  refine dss_one ?_
  refine ds_ret ?_
  refine de_cf (f := He.fAd K d_misses_in.at_) (ps := ps_misses_in) (k := 1) (j := 4) ?_ ?_ ?_ ?_ ?_
  exact o_misses_in
  exact hr
  exact c.glo 28
  exact hx
  refine da_cons ?_ ?_
  refine de_ix ?_ ?_ ?_
  refine de_cf (f := He.fAd K d_run_by.at_) (ps := ps_run_by) (k := 4) (j := 4) ?_ ?_ ?_ ?_ ?_
  exact o_run_by
  exact hr
  exact c.glo 26
  exact hx
  refine da_cons ?_ ?_
  exact dv 0
  refine da_cons ?_ ?_
  exact dv 1
  refine da_cons ?_ ?_
  exact dv 2
  exact da_nil
  exact de_int
  exact fun _ _ => rfl
  exact da_nil
theorem dv_curve (c : Fx fa fn ex K mg) (o_need_rule : OkF P w K mg base 1 (He.fAd K d_need_rule.at_) ps_need_rule (dsp_need_rule K)) (o_need_stream : OkF P w K mg base 2 (He.fAd K d_need_stream.at_) ps_need_stream (dsp_need_stream K)) (o_is_number : OkF P w K mg base 1 (He.fAd K d_is_number.at_) ps_is_number (dsp_is_number K)) (o_misses_by : OkF P w K mg base 5 (He.fAd K d_misses_by.at_) ps_misses_by (dsp_misses_by K)) {qual : Str} {f : Addr} {cdv : Value} {A : Around} {outer : List Env} {s : Shared} {H B : Hp} {E : XK} {WD : XDW} (hr : Room 5 (A.deeper (envOfC qual (defScope s_curve) s.heap.objs.size f cdv))) (hx : XOk (cxOf (L2.CX P w) P w K mg base N_curve qual (defScope s_curve) f cdv A outer s H E) B WD) :
    DSs (cxOf (L2.CX P w) P w K mg base N_curve qual (defScope s_curve) f cdv A outer s H E) B (defBody s_curve) (t_curve K WD) := by
  refine dss_cons ?_ ?_
  refine ds_expr ?_
  refine de_cf (f := He.fAd K d_need_rule.at_) (ps := ps_need_rule) (k := 1) (j := 5) ?_ ?_ ?_ ?_ ?_
  exact o_need_rule
  exact hr
  exact c.glo 7
  exact hx
  refine da_cons ?_ ?_
  exact dv 0
  exact da_nil
  refine dss_cons ?_ ?_
  refine ds_expr ?_
  refine de_cf (f := He.fAd K d_need_stream.at_) (ps := ps_need_stream) (k := 2) (j := 5) ?_ ?_ ?_ ?_ ?_
  exact o_need_stream
  exact hr
  exact c.glo 9
  exact hx
  refine da_cons ?_ ?_
  exact dv 1
  exact da_nil
  refine dss_cons ?_ ?_
  refine ds_if ?_ ?_ ?_
  refine dt_not ?_
  refine dt_val ?_
  refine de_cf (f := He.fAd K d_is_number.at_) (ps := ps_is_number) (k := 1) (j := 5) ?_ ?_ ?_ ?_ ?_
  exact o_is_number
  exact hr
  exact c.glo 6
  exact hx
  refine da_cons ?_ ?_
  exact dv 2
  refine da_cons ?_ ?_
  exact de_int
  refine da_cons ?_ ?_
  refine de_glob (v := .int 6) (u := .int 6 (c.int 54).choose) ?_ ?_ ?_
  rfl
  exact (c.int 54).choose_spec
  exact ⟨_, rfl⟩
  exact da_nil
  refine dss_one ?_
  refine ds_rz (K0 := []) ?_ ?_ ?_ ?_
  rfl
  exact hx
  exact c.exc 62
  exact c.glo 5
  exact dss_nil
  refine dss_one ?_
  refine ds_ret ?_
  refine de_lc (own := [("size", 3)]) (g := (gName 3)) (tt := tYes) ?_ ?_ ?_ ?_ (fun _ _ _ _ _ => ?_) ?_ ?_ (fun _ _ _ _ _ => ?_) ?_ (fun _ _ _ _ _ => ?_)
  rfl
  exact sc_curve.nd
  refine di_range2 ?_ ?_ ?_
  rfl
  exact c.free 49
  refine da_cons ?_ ?_
  exact de_int
  refine da_cons ?_ ?_
  refine de_op op_addA lr_add ?_ ?_
  exact dv 2
  exact de_int
  exact da_nil
  exact blkOk_by (N := N_curve) (sc := defScope s_curve) (own := [("size", 3)]) (by decide +kernel)
  refine pg_name (i := 3) ?_ ?_ ?_
  exact sc_curve.nd
  rfl
  first | exact Or.inl rfl | exact Or.inr rfl
  exact lg_name
  exact ownG_name (by decide)
  exact pts_nil
  exact lt_yes
  refine de_cf (f := He.fAd K d_misses_by.at_) (ps := ps_misses_by) (k := 5) (j := 5) ?_ ?_ ?_ ?_ ?_
  exact o_misses_by
  exact hr
  exact c.glo 29
  exact xok_no
  refine da_cons ?_ ?_
  exact dv 0
  refine da_cons ?_ ?_
  exact dv 3
  refine da_cons ?_ ?_
  exact dv 1
  exact da_nil
theorem dv_need_pages (c : Fx fa fn ex K mg) (o_is_number : OkF P w K mg base 1 (He.fAd K d_is_number.at_) ps_is_number (dsp_is_number K)) {qual : Str} {f : Addr} {cdv : Value} {A : Around} {outer : List Env} {s : Shared} {H B : Hp} {E : XK} {WD : XDW} (hr : Room 1 (A.deeper (envOfC qual (defScope s_need_pages) s.heap.objs.size f cdv))) (hx : XOk (cxOf (L2.CX P w) P w K mg base N_need_pages qual (defScope s_need_pages) f cdv A outer s H E) B WD) :
    DSs (cxOf (L2.CX P w) P w K mg base N_need_pages qual (defScope s_need_pages) f cdv A outer s H E) B (defBody s_need_pages) (t_need_pages K WD) := by
  refine dss_one ?_
  refine ds_if ?_ ?_ ?_
  refine DW.dt ?_
  refine dw_or ?_ ?_
  refine dt_not ?_
  refine dt_val ?_
  refine de_cf (f := He.fAd K d_is_number.at_) (ps := ps_is_number) (k := 1) (j := 1) ?_ ?_ ?_ ?_ ?_
  exact o_is_number
  exact hr
  exact c.glo 6
  exact hx
  refine da_cons ?_ ?_
  exact dv 1
  refine da_cons ?_ ?_
  refine de_op op_addA lr_add ?_ ?_
  exact dv 0
  exact de_int
  refine da_cons ?_ ?_
  refine de_op op_addA lr_add ?_ ?_
  refine de_glob (v := .int 9) (u := .int 9 (c.int 55).choose) ?_ ?_ ?_
  rfl
  exact (c.int 55).choose_spec
  exact ⟨_, rfl⟩
  exact de_int
  exact da_nil
  refine dw_or1 ?_
  refine dt_not ?_
  refine dt_val ?_
  refine de_cf (f := He.fAd K d_is_number.at_) (ps := ps_is_number) (k := 1) (j := 1) ?_ ?_ ?_ ?_ ?_
  exact o_is_number
  exact hr
  exact c.glo 6
  exact hx
  refine da_cons ?_ ?_
  exact dv 2
  refine da_cons ?_ ?_
  exact de_int
  refine da_cons ?_ ?_
  exact de_int
  exact da_nil
  refine dss_one ?_
  refine ds_rz (K0 := []) ?_ ?_ ?_ ?_
  rfl
  exact hx
  exact c.exc 62
  exact c.glo 5
  exact dss_nil
theorem dv_cruel (c : Fx fa fn ex K mg) (o_need_rule : OkF P w K mg base 1 (He.fAd K d_need_rule.at_) ps_need_rule (dsp_need_rule K)) (o_need_size : OkF P w K mg base 2 (He.fAd K d_need_size.at_) ps_need_size (dsp_need_size K)) (o_need_pages : OkF P w K mg base 2 (He.fAd K d_need_pages.at_) ps_need_pages (dsp_need_pages K)) (o_started : OkF P w K mg base 1 (He.fAd K d_started.at_) ps_started (dsp_started K)) (o_pages_of : OkF P w K mg base 1 (He.fAd K d_pages_of.at_) ps_pages_of (dsp_pages_of K)) (o_asked : OkF P w K mg base 3 (He.fAd K d_asked.at_) ps_asked (dsp_asked K)) {qual : Str} {f : Addr} {cdv : Value} {A : Around} {outer : List Env} {s : Shared} {H B : Hp} {E : XK} {WD : XDW} (hr : Room 3 (A.deeper (envOfC qual (defScope s_cruel) s.heap.objs.size f cdv))) (hx : XOk (cxOf (L2.CX P w) P w K mg base N_cruel qual (defScope s_cruel) f cdv A outer s H E) B WD) :
    DSs (cxOf (L2.CX P w) P w K mg base N_cruel qual (defScope s_cruel) f cdv A outer s H E) B (defBody s_cruel) (t_cruel K WD) := by
  refine dss_cons ?_ ?_
  refine ds_expr ?_
  refine de_cf (f := He.fAd K d_need_rule.at_) (ps := ps_need_rule) (k := 1) (j := 3) ?_ ?_ ?_ ?_ ?_
  exact o_need_rule
  exact hr
  exact c.glo 7
  exact hx
  refine da_cons ?_ ?_
  exact dv 0
  exact da_nil
  refine dss_cons ?_ ?_
  refine ds_expr ?_
  refine de_cf (f := He.fAd K d_need_size.at_) (ps := ps_need_size) (k := 2) (j := 3) ?_ ?_ ?_ ?_ ?_
  exact o_need_size
  exact hr
  exact c.glo 8
  exact hx
  refine da_cons ?_ ?_
  exact dv 1
  exact da_nil
  refine dss_cons ?_ ?_
  refine ds_expr ?_
  refine de_cf (f := He.fAd K d_need_pages.at_) (ps := ps_need_pages) (k := 2) (j := 3) ?_ ?_ ?_ ?_ ?_
  exact o_need_pages
  exact hr
  exact c.glo 32
  exact hx
  refine da_cons ?_ ?_
  exact dv 1
  refine da_cons ?_ ?_
  exact dv 2
  refine da_cons ?_ ?_
  exact dv 3
  exact da_nil
  refine dss_cons ?_ ?_
  refine ds_par (i := 4) (j := 5) ?_ ?_ ?_ ?_ ?_ ?_ ?_ ?_ ?_
  rfl
  exact sc_cruel.nd
  rfl
  rfl
  decide
  rfl
  rfl
  refine da_cons ?_ ?_
  refine de_cf0 (f := He.fAd K d_started.at_) (ps := ps_started) (k := 1) (j := 3) ?_ ?_ ?_ ?_
  exact o_started
  exact hr
  exact c.glo 11
  exact hx
  refine da_cons ?_ ?_
  refine de_lst ?_
  exact da_nil
  exact da_nil
  rfl
  refine dss_cons ?_ ?_
  refine ds_for ?_ ?_ ?_ ?_ ?_
  exact passes_of rfl
  rfl
  refine di_range1 ?_ ?_ ?_
  rfl
  exact c.free 49
  refine da_cons ?_ ?_
  exact dv 3
  exact da_nil
  refine dg_name (i := 6) ?_ ?_ ?_
  exact sc_cruel.nd
  rfl
  first | exact Or.inl rfl | exact Or.inr rfl
  refine dss_cons ?_ ?_
  refine ds_set (i := 7) ?_ ?_ ?_ ?_
  exact sc_cruel.nd
  rfl
  first | exact Or.inl rfl | exact Or.inr rfl
  refine de_cf (f := He.fAd K d_pages_of.at_) (ps := ps_pages_of) (k := 1) (j := 3) ?_ ?_ ?_ ?_ ?_
  exact o_pages_of
  exact hr
  exact c.glo 10
  exact hx
  refine da_cons ?_ ?_
  exact dv 4
  exact da_nil
  refine dss_cons ?_ ?_
  refine ds_set (i := 8) ?_ ?_ ?_ ?_
  exact sc_cruel.nd
  rfl
  first | exact Or.inl rfl | exact Or.inr rfl
  refine de_ix ?_ ?_ ?_
  refine de_lc (own := [("one", 9)]) (g := (gName 9)) (tt := (upT K B (dTest (dOp dNotin (dVar 9) (dVar 7))))) ?_ ?_ ?_ ?_ (fun _ _ _ _ _ => ?_) ?_ ?_ (fun _ _ _ _ _ => ?_) ?_ (fun _ _ _ _ _ => ?_)
  rfl
  exact sc_cruel.nd
  refine di_range1 ?_ ?_ ?_
  rfl
  exact c.free 49
  refine da_cons ?_ ?_
  exact dv 2
  exact da_nil
  exact blkOk_by (N := N_cruel) (sc := defScope s_cruel) (own := [("one", 9)]) (by decide +kernel)
  refine pg_name (i := 9) ?_ ?_ ?_
  exact sc_cruel.nd
  rfl
  first | exact Or.inl rfl | exact Or.inr rfl
  exact lg_name
  exact ownG_name (by decide)
  refine pts_oneU ?_
  refine dt_cmp (r := rInA K not true) ?_ ?_ ?_ ?_ ?_
  exact op_notinA (hu_of hr)
  exact lr_notin
  exact dv 9
  exact dv 7
  rfl
  exact upT_le
  exact dv 9
  exact de_int
  exact fun _ _ => rfl
  refine dss_cons ?_ ?_
  refine ds_expr ?_
  refine de_bm PySem.F.plainAttrs_list PySem.F.slot_list_append PySem.F.type_list_append mt_append lm_append ?_ ?_
  exact dv 5
  refine da_cons ?_ ?_
  exact dv 8
  exact da_nil
  refine dss_one ?_
  refine ds_asg ?_ ?_
  refine de_cf (f := He.fAd K d_asked.at_) (ps := ps_asked) (k := 3) (j := 3) ?_ ?_ ?_ ?_ ?_
  exact o_asked
  exact hr
  exact c.glo 16
  exact hx
  refine da_cons ?_ ?_
  exact dv 0
  refine da_cons ?_ ?_
  exact dv 1
  refine da_cons ?_ ?_
  exact dv 4
  refine da_cons ?_ ?_
  exact dv 8
  exact da_nil
  refine dg_tup ?_ ?_
  rfl
  refine dgs_cons ?_ ?_
  refine dg_name (i := 4) ?_ ?_ ?_
  exact sc_cruel.nd
  rfl
  first | exact Or.inl rfl | exact Or.inr rfl
  refine dgs_cons ?_ ?_
  refine dg_name (i := 10) ?_ ?_ ?_
  exact sc_cruel.nd
  rfl
  first | exact Or.inl rfl | exact Or.inr rfl
  refine dgs_cons ?_ ?_
  refine dg_name (i := 11) ?_ ?_ ?_
  exact sc_cruel.nd
  rfl
  first | exact Or.inl rfl | exact Or.inr rfl
  exact dgs_nil
  refine dss_one ?_
  refine ds_ret ?_
  refine de_ty (r := rTupleA K) (call_tuple_of) lc_tuple ?_ ?_ ?_ ?_
  rfl
  exact c.free 53
  decide +kernel
  refine da_cons ?_ ?_
  exact dv 5
  exact da_nil
theorem dv_law_start (c : Fx fa fn ex K mg) {qual : Str} {f : Addr} {cdv : Value} {A : Around} {outer : List Env} {s : Shared} {H B : Hp} {E : XK} {WD : XDW} (hr : Room 0 (A.deeper (envOfC qual (defScope s_law_start) s.heap.objs.size f cdv))) (hx : XOk (cxOf (L2.CX P w) P w K mg base N_law_start qual (defScope s_law_start) f cdv A outer s H E) B WD) :
    DSs (cxOf (L2.CX P w) P w K mg base N_law_start qual (defScope s_law_start) f cdv A outer s H E) B (defBody s_law_start) (t_law_start K WD) := by
  refine dss_cons ?_ ?_
  refine ds_set (i := 1) ?_ ?_ ?_ ?_
  exact sc_law_start.nd
  rfl
  first | exact Or.inl rfl | exact Or.inr rfl
  exact de_int
  refine dss_cons ?_ ?_
  refine ds_for ?_ ?_ ?_ ?_ ?_
  exact passes_of rfl
  rfl
  refine di_lst ?_
  exact dv 0
  refine dg_name (i := 2) ?_ ?_ ?_
  exact sc_law_start.nd
  rfl
  first | exact Or.inl rfl | exact Or.inr rfl
  refine dss_one ?_
  refine ds_set (i := 1) ?_ ?_ ?_ ?_
  exact sc_law_start.nd
  rfl
  first | exact Or.inl rfl | exact Or.inr rfl
  refine de_op op_mod lr_I ?_ ?_
  refine de_op op_addA lr_add ?_ ?_
  refine de_op op_addA lr_add ?_ ?_
  refine de_op op_mulA lr_mul ?_ ?_
  exact dv 1
  exact de_int
  exact dv 2
  exact de_int
  exact de_int
  refine dss_one ?_
  refine ds_ret ?_
  refine de_lst ?_
  refine da_cons ?_ ?_
  exact dv 0
  refine da_cons ?_ ?_
  exact de_int
  refine da_cons ?_ ?_
  exact dv 1
  refine da_cons ?_ ?_
  exact de_int
  exact da_nil
theorem dv_law_drawn (c : Fx fa fn ex K mg) {qual : Str} {f : Addr} {cdv : Value} {A : Around} {outer : List Env} {s : Shared} {H B : Hp} {E : XK} {WD : XDW} (hr : Room 0 (A.deeper (envOfC qual (defScope s_law_drawn) s.heap.objs.size f cdv))) (hx : XOk (cxOf (L2.CX P w) P w K mg base N_law_drawn qual (defScope s_law_drawn) f cdv A outer s H E) B WD) :
    DSs (cxOf (L2.CX P w) P w K mg base N_law_drawn qual (defScope s_law_drawn) f cdv A outer s H E) B (defBody s_law_drawn) (t_law_drawn K WD) := by
  refine dss_ghost ?_
  refine dss_cons ?_ ?_
  refine ds_if ?_ ?_ ?_
  refine dt_cmp op_gt lr_I0 ?_ ?_ ?_
  refine de_ix ?_ ?_ ?_
  exact dv 0
  exact de_int
  exact fun _ _ => rfl
  exact de_int
  rfl
  refine dss_cons ?_ ?_
  refine ds_set (i := 2) ?_ ?_ ?_ ?_
  exact sc_law_drawn.nd
  rfl
  first | exact Or.inl rfl | exact Or.inr rfl
  refine de_op op_mod lr_I ?_ ?_
  refine de_ix ?_ ?_ ?_
  exact dv 0
  exact de_int
  exact fun _ _ => rfl
  exact dv 1
  refine dss_cons ?_ ?_
  refine ds_put ?_ ?_ ?_ ?_
  exact hu_of hr
  exact dv 0
  exact de_int
  refine de_op op_fdiv lr_I ?_ ?_
  refine de_ix ?_ ?_ ?_
  exact dv 0
  exact de_int
  exact fun _ _ => rfl
  exact dv 1
  refine dss_one ?_
  refine ds_ret ?_
  exact dv 2
  exact dss_nil
  refine dss_cons ?_ ?_
  refine ds_put ?_ ?_ ?_ ?_
  exact hu_of hr
  exact dv 0
  exact de_int
  refine de_op op_addA lr_add ?_ ?_
  refine de_ix ?_ ?_ ?_
  exact dv 0
  exact de_int
  exact fun _ _ => rfl
  exact de_int
  refine dss_cons ?_ ?_
  refine ds_if ?_ ?_ ?_
  refine dt_cmp op_le lr_I0 ?_ ?_ ?_
  refine de_ix ?_ ?_ ?_
  exact dv 0
  exact de_int
  exact fun _ _ => rfl
  refine de_bi (cr_len) lc_len ?_ ?_ ?_ ?_
  rfl
  exact c.free 45
  decide +kernel
  refine da_cons ?_ ?_
  refine de_ix ?_ ?_ ?_
  exact dv 0
  exact de_int
  exact fun _ _ => rfl
  exact da_nil
  rfl
  refine dss_cons ?_ ?_
  refine ds_set (i := 3) ?_ ?_ ?_ ?_
  exact sc_law_drawn.nd
  rfl
  first | exact Or.inl rfl | exact Or.inr rfl
  refine de_ix ?_ ?_ ?_
  refine de_ix ?_ ?_ ?_
  exact dv 0
  exact de_int
  exact fun _ _ => rfl
  refine de_op op_sub lr_I0 ?_ ?_
  refine de_ix ?_ ?_ ?_
  exact dv 0
  exact de_int
  exact fun _ _ => rfl
  exact de_int
  exact fun _ _ => rfl
  refine dss_cons ?_ ?_
  refine ds_put ?_ ?_ ?_ ?_
  exact hu_of hr
  exact dv 0
  exact de_int
  refine de_if ?_ ?_ ?_
  refine dt_cmp op_ge lr_I0 ?_ ?_ ?_
  exact dv 3
  refine de_op op_pow lr_I ?_ ?_
  exact de_int
  exact de_int
  rfl
  refine de_op op_fdiv lr_I ?_ ?_
  exact dv 3
  exact dv 1
  exact de_int
  refine dss_one ?_
  refine ds_ret ?_
  refine de_op op_mod lr_I ?_ ?_
  exact dv 3
  exact dv 1
  exact dss_nil
  refine dss_cons ?_ ?_
  refine ds_put ?_ ?_ ?_ ?_
  exact hu_of hr
  exact dv 0
  exact de_int
  refine de_op op_mod lr_I ?_ ?_
  refine de_op op_addA lr_add ?_ ?_
  refine de_op op_mulA lr_mul ?_ ?_
  refine de_ix ?_ ?_ ?_
  exact dv 0
  exact de_int
  exact fun _ _ => rfl
  exact de_int
  exact de_int
  exact de_int
  refine dss_one ?_
  refine ds_ret ?_
  refine de_op op_mod lr_I ?_ ?_
  refine de_op op_fdiv lr_I ?_ ?_
  refine de_ix ?_ ?_ ?_
  exact dv 0
  exact de_int
  exact fun _ _ => rfl
  exact de_int
  exact dv 1
theorem dv_law_rule (c : Fx fa fn ex K mg) (o_law_drawn : OkF P w K mg base 1 (He.fAd K d_law_drawn.at_) ps_law_drawn (dsp_law_drawn K)) {qual : Str} {f : Addr} {cdv : Value} {A : Around} {outer : List Env} {s : Shared} {H B : Hp} {E : XK} {WD : XDW} (hr : Room 1 (A.deeper (envOfC qual (defScope s_law_rule) s.heap.objs.size f cdv))) (hx : XOk (cxOf (L2.CX P w) P w K mg base N_law_rule qual (defScope s_law_rule) f cdv A outer s H E) B WD) :
    DSs (cxOf (L2.CX P w) P w K mg base N_law_rule qual (defScope s_law_rule) f cdv A outer s H E) B (defBody s_law_rule) (t_law_rule K WD) := by
  refine dss_one ?_
  refine ds_ret ?_
  refine de_ix ?_ ?_ ?_
  refine de_lst ?_
  refine da_cons ?_ ?_
  exact de_str
  refine da_cons ?_ ?_
  exact de_str
  refine da_cons ?_ ?_
  exact de_str
  refine da_cons ?_ ?_
  exact de_str
  refine da_cons ?_ ?_
  exact de_str
  refine da_cons ?_ ?_
  exact de_str
  exact da_nil
  refine de_cf (f := He.fAd K d_law_drawn.at_) (ps := ps_law_drawn) (k := 1) (j := 1) ?_ ?_ ?_ ?_ ?_
  exact o_law_drawn
  exact hr
  exact c.glo 34
  exact hx
  refine da_cons ?_ ?_
  exact dv 0
  refine da_cons ?_ ?_
  exact de_int
  exact da_nil
  exact fun _ _ => rfl
theorem dv_law_stream (c : Fx fa fn ex K mg) (o_law_drawn : OkF P w K mg base 1 (He.fAd K d_law_drawn.at_) ps_law_drawn (dsp_law_drawn K)) {qual : Str} {f : Addr} {cdv : Value} {A : Around} {outer : List Env} {s : Shared} {H B : Hp} {E : XK} {WD : XDW} (hr : Room 1 (A.deeper (envOfC qual (defScope s_law_stream) s.heap.objs.size f cdv))) (hx : XOk (cxOf (L2.CX P w) P w K mg base N_law_stream qual (defScope s_law_stream) f cdv A outer s H E) B WD) :
    DSs (cxOf (L2.CX P w) P w K mg base N_law_stream qual (defScope s_law_stream) f cdv A outer s H E) B (defBody s_law_stream) (t_law_stream K WD) := by
  refine dss_cons ?_ ?_
  refine ds_setLc (i := 3) (own := [("_law_k", 4)]) (g := (gName 4)) (tt := tYes) ?_ ?_ ?_ ?_ ?_ ?_ ?_ (fun _ _ _ _ _ => ?_) ?_ ?_ (fun _ _ _ _ _ => ?_) ?_ (fun _ _ _ _ _ => ?_)
  rfl
  exact sc_law_stream.nd
  rfl
  rfl
  exact sw_true rfl rfl rfl (by decide +kernel)
  refine di_range1 ?_ ?_ ?_
  rfl
  exact c.free 49
  refine da_cons ?_ ?_
  refine de_cf (f := He.fAd K d_law_drawn.at_) (ps := ps_law_drawn) (k := 1) (j := 1) ?_ ?_ ?_ ?_ ?_
  exact o_law_drawn
  exact hr
  exact c.glo 34
  exact hx
  refine da_cons ?_ ?_
  exact dv 0
  refine da_cons ?_ ?_
  refine de_op op_addA lr_add ?_ ?_
  exact dv 2
  exact de_int
  exact da_nil
  exact da_nil
  exact blkOk_by (N := N_law_stream) (sc := defScope s_law_stream) (own := [("_law_k", 4)]) (by decide +kernel)
  refine pg_name (i := 4) ?_ ?_ ?_
  exact sc_law_stream.nd
  rfl
  first | exact Or.inl rfl | exact Or.inr rfl
  exact lg_name
  exact ownG_name (by decide)
  exact pts_nil
  exact lt_yes
  refine de_cf (f := He.fAd K d_law_drawn.at_) (ps := ps_law_drawn) (k := 1) (j := 1) ?_ ?_ ?_ ?_ ?_
  exact o_law_drawn
  exact hr
  exact c.glo 34
  exact xok_no
  refine da_cons ?_ ?_
  exact dv 0
  refine da_cons ?_ ?_
  exact dv 1
  exact da_nil
  refine dss_cons ?_ ?_
  refine ds_if ?_ ?_ ?_
  refine dt_cmp (r := rEqA K) ?_ ?_ ?_ ?_ ?_
  exact op_eqA hr.units
  exact lr_eq
  refine de_cf (f := He.fAd K d_law_drawn.at_) (ps := ps_law_drawn) (k := 1) (j := 1) ?_ ?_ ?_ ?_ ?_
  exact o_law_drawn
  exact hr
  exact c.glo 34
  exact hx
  refine da_cons ?_ ?_
  exact dv 0
  refine da_cons ?_ ?_
  exact de_int
  exact da_nil
  exact de_int
  rfl
  refine dss_cons ?_ ?_
  refine ds_set (i := 5) ?_ ?_ ?_ ?_
  exact sc_law_stream.nd
  rfl
  first | exact Or.inl rfl | exact Or.inr rfl
  refine de_op op_addA lr_add ?_ ?_
  exact de_int
  refine de_cf (f := He.fAd K d_law_drawn.at_) (ps := ps_law_drawn) (k := 1) (j := 1) ?_ ?_ ?_ ?_ ?_
  exact o_law_drawn
  exact hr
  exact c.glo 34
  exact hx
  refine da_cons ?_ ?_
  exact dv 0
  refine da_cons ?_ ?_
  exact dv 1
  exact da_nil
  refine dss_one ?_
  refine ds_setLc (i := 3) (own := [("_law_k", 4)]) (g := (gName 4)) (tt := tYes) ?_ ?_ ?_ ?_ ?_ ?_ ?_ (fun _ _ _ _ _ => ?_) ?_ ?_ (fun _ _ _ _ _ => ?_) ?_ (fun _ _ _ _ _ => ?_)
  rfl
  exact sc_law_stream.nd
  rfl
  rfl
  exact sw_true rfl rfl rfl (by decide +kernel)
  refine di_range1 ?_ ?_ ?_
  rfl
  exact c.free 49
  refine da_cons ?_ ?_
  refine de_bi (cr_len) lc_len ?_ ?_ ?_ ?_
  rfl
  exact c.free 45
  decide +kernel
  refine da_cons ?_ ?_
  exact dv 3
  exact da_nil
  exact da_nil
  exact blkOk_by (N := N_law_stream) (sc := defScope s_law_stream) (own := [("_law_k", 4)]) (by decide +kernel)
  refine pg_name (i := 4) ?_ ?_ ?_
  exact sc_law_stream.nd
  rfl
  first | exact Or.inl rfl | exact Or.inr rfl
  exact lg_name
  exact ownG_name (by decide)
  exact pts_nil
  exact lt_yes
  refine de_op op_mod lr_I ?_ ?_
  exact dv 4
  refine de_bi (cr_min2 (by rfl)) lc_two ?_ ?_ ?_ ?_
  rfl
  exact c.free 48
  decide +kernel
  refine da_cons ?_ ?_
  exact dv 5
  refine da_cons ?_ ?_
  exact dv 1
  exact da_nil
  exact dss_nil
  refine dss_cons ?_ ?_
  refine ds_for ?_ ?_ ?_ ?_ ?_
  exact passes_of rfl
  rfl
  refine di_range1 ?_ ?_ ?_
  rfl
  exact c.free 49
  refine da_cons ?_ ?_
  refine de_cf (f := He.fAd K d_law_drawn.at_) (ps := ps_law_drawn) (k := 1) (j := 1) ?_ ?_ ?_ ?_ ?_
  exact o_law_drawn
  exact hr
  exact c.glo 34
  exact hx
  refine da_cons ?_ ?_
  exact dv 0
  refine da_cons ?_ ?_
  exact de_int
  exact da_nil
  exact da_nil
  refine dg_name (i := 4) ?_ ?_ ?_
  exact sc_law_stream.nd
  rfl
  first | exact Or.inl rfl | exact Or.inr rfl
  refine dss_one ?_
  refine ds_if ?_ ?_ ?_
  refine dt_cmp (r := rNeA K) ?_ ?_ ?_ ?_ ?_
  exact op_neA hr.units
  exact lr_ne
  exact dv 3
  refine de_lst ?_
  exact da_nil
  rfl
  refine dss_one ?_
  refine ds_put ?_ ?_ ?_ ?_
  exact hu_of hr
  exact dv 3
  refine de_cf (f := He.fAd K d_law_drawn.at_) (ps := ps_law_drawn) (k := 1) (j := 1) ?_ ?_ ?_ ?_ ?_
  exact o_law_drawn
  exact hr
  exact c.glo 34
  exact hx
  refine da_cons ?_ ?_
  exact dv 0
  refine da_cons ?_ ?_
  refine de_bi (cr_len) lc_len ?_ ?_ ?_ ?_
  rfl
  exact c.free 45
  decide +kernel
  refine da_cons ?_ ?_
  exact dv 3
  exact da_nil
  exact da_nil
  refine de_cf (f := He.fAd K d_law_drawn.at_) (ps := ps_law_drawn) (k := 1) (j := 1) ?_ ?_ ?_ ?_ ?_
  exact o_law_drawn
  exact hr
  exact c.glo 34
  exact hx
  refine da_cons ?_ ?_
  exact dv 0
  refine da_cons ?_ ?_
  exact dv 1
  exact da_nil
  exact dss_nil
  refine dss_one ?_
  refine ds_ret ?_
  refine de_ty (r := rTupleA K) (call_tuple_of) lc_tuple ?_ ?_ ?_ ?_
  rfl
  exact c.free 53
  decide +kernel
  refine da_cons ?_ ?_
  exact dv 3
  exact da_nil
theorem dv_law (c : Fx fa fn ex K mg) (o_law_start : OkF P w K mg base 1 (He.fAd K d_law_start.at_) ps_law_start (dsp_law_start K)) (o_law_rule : OkF P w K mg base 2 (He.fAd K d_law_rule.at_) ps_law_rule (dsp_law_rule K)) (o_law_drawn : OkF P w K mg base 1 (He.fAd K d_law_drawn.at_) ps_law_drawn (dsp_law_drawn K)) (o_law_stream : OkF P w K mg base 2 (He.fAd K d_law_stream.at_) ps_law_stream (dsp_law_stream K)) (o_cheapest : OkFd P w K mg base 4 (He.fAd K d_cheapest.at_) ps_cheapest (dsp_cheapest K) [.non] ["weights"]) (o_run : OkF P w K mg base 5 (He.fAd K d_run.at_) ps_run (dsp_run K)) (o_farthest : OkF P w K mg base 3 (He.fAd K d_farthest.at_) ps_farthest (dsp_farthest K)) (o_curve : OkF P w K mg base 6 (He.fAd K d_curve.at_) ps_curve (dsp_curve K)) (o_cruel : OkF P w K mg base 4 (He.fAd K d_cruel.at_) ps_cruel (dsp_cruel K)) {qual : Str} {f : Addr} {cdv : Value} {A : Around} {outer : List Env} {s : Shared} {H B : Hp} {E : XK} {WD : XDW} (hr : Room 6 (A.deeper (envOfC qual (defScope s_law) s.heap.objs.size f cdv))) (hx : XOk (cxOf (L2.CX P w) P w K mg base N_law qual (defScope s_law) f cdv A outer s H E) B WD) :
    DSs (cxOf (L2.CX P w) P w K mg base N_law qual (defScope s_law) f cdv A outer s H E) B (defBody s_law) (t_law K WD) := by
  refine dss_cons ?_ ?_
  refine ds_set (i := 1) ?_ ?_ ?_ ?_
  exact sc_law.nd
  rfl
  first | exact Or.inl rfl | exact Or.inr rfl
  refine de_cf (f := He.fAd K d_law_start.at_) (ps := ps_law_start) (k := 1) (j := 6) ?_ ?_ ?_ ?_ ?_
  exact o_law_start
  exact hr
  exact c.glo 33
  exact hx
  refine da_cons ?_ ?_
  exact dv 0
  exact da_nil
  refine dss_cons ?_ ?_
  refine ds_for ?_ ?_ ?_ ?_ ?_
  exact passes_of rfl
  rfl
  refine di_range1 ?_ ?_ ?_
  rfl
  exact c.free 49
  refine da_cons ?_ ?_
  exact de_int
  exact da_nil
  refine dg_name (i := 2) ?_ ?_ ?_
  exact sc_law.nd
  rfl
  first | exact Or.inl rfl | exact Or.inr rfl
  refine dss_cons ?_ ?_
  refine ds_par (i := 3) (j := 4) ?_ ?_ ?_ ?_ ?_ ?_ ?_ ?_ ?_
  rfl
  exact sc_law.nd
  rfl
  rfl
  decide
  rfl
  rfl
  refine da_cons ?_ ?_
  refine de_cf (f := He.fAd K d_law_rule.at_) (ps := ps_law_rule) (k := 2) (j := 6) ?_ ?_ ?_ ?_ ?_
  exact o_law_rule
  exact hr
  exact c.glo 35
  exact hx
  refine da_cons ?_ ?_
  exact dv 1
  exact da_nil
  refine da_cons ?_ ?_
  refine de_op op_addA lr_add ?_ ?_
  exact de_int
  refine de_cf (f := He.fAd K d_law_drawn.at_) (ps := ps_law_drawn) (k := 1) (j := 6) ?_ ?_ ?_ ?_ ?_
  exact o_law_drawn
  exact hr
  exact c.glo 34
  exact hx
  refine da_cons ?_ ?_
  exact dv 1
  refine da_cons ?_ ?_
  exact de_int
  exact da_nil
  exact da_nil
  rfl
  refine dss_cons ?_ ?_
  refine ds_set (i := 5) ?_ ?_ ?_ ?_
  exact sc_law.nd
  rfl
  first | exact Or.inl rfl | exact Or.inr rfl
  refine de_cf (f := He.fAd K d_law_stream.at_) (ps := ps_law_stream) (k := 2) (j := 6) ?_ ?_ ?_ ?_ ?_
  exact o_law_stream
  exact hr
  exact c.glo 36
  exact hx
  refine da_cons ?_ ?_
  exact dv 1
  refine da_cons ?_ ?_
  refine de_op op_addA lr_add ?_ ?_
  exact de_int
  refine de_cf (f := He.fAd K d_law_drawn.at_) (ps := ps_law_drawn) (k := 1) (j := 6) ?_ ?_ ?_ ?_ ?_
  exact o_law_drawn
  exact hr
  exact c.glo 34
  exact hx
  refine da_cons ?_ ?_
  exact dv 1
  refine da_cons ?_ ?_
  exact de_int
  exact da_nil
  refine da_cons ?_ ?_
  refine de_ix ?_ ?_ ?_
  refine de_lst ?_
  refine da_cons ?_ ?_
  exact de_int
  refine da_cons ?_ ?_
  exact de_int
  exact da_nil
  refine de_cf (f := He.fAd K d_law_drawn.at_) (ps := ps_law_drawn) (k := 1) (j := 6) ?_ ?_ ?_ ?_ ?_
  exact o_law_drawn
  exact hr
  exact c.glo 34
  exact hx
  refine da_cons ?_ ?_
  exact dv 1
  refine da_cons ?_ ?_
  exact de_int
  exact da_nil
  exact fun _ _ => rfl
  exact da_nil
  refine dss_cons ?_ ?_
  refine ds_set (i := 6) ?_ ?_ ?_ ?_
  exact sc_law.nd
  rfl
  first | exact Or.inl rfl | exact Or.inr rfl
  refine de_ix ?_ ?_ ?_
  refine de_cfd (F := o_cheapest) (dd := [dN]) (f := He.fAd K d_cheapest.at_) (ps := ps_cheapest) (k := 4) (j := 6) ?_ ?_ ?_ ?_ ?_
  exact hr
  exact c.glo 22
  exact hx
  exact fun _ => (.cons (.at _) .nil)
  refine da_cons ?_ ?_
  exact dv 4
  refine da_cons ?_ ?_
  exact dv 5
  exact da_nil
  exact de_int
  exact fun _ _ => rfl
  refine dss_cons ?_ ?_
  refine ds_if ?_ ?_ ?_
  refine DW.dt ?_
  refine dw_or ?_ ?_
  refine dt_cmp op_lt lr_I0 ?_ ?_ ?_
  refine de_ix ?_ ?_ ?_
  refine de_cf (f := He.fAd K d_run.at_) (ps := ps_run) (k := 5) (j := 6) ?_ ?_ ?_ ?_ ?_
  exact o_run
  exact hr
  exact c.glo 27
  exact hx
  refine da_cons ?_ ?_
  exact dv 3
  refine da_cons ?_ ?_
  exact dv 4
  refine da_cons ?_ ?_
  exact dv 5
  exact da_nil
  exact de_int
  exact fun _ _ => rfl
  exact dv 6
  rfl
  refine dw_or1 ?_
  refine dt_cmp (r := rNeA K) ?_ ?_ ?_ ?_ ?_
  exact op_neA hr.units
  exact lr_ne
  refine de_ix ?_ ?_ ?_
  refine de_cf (f := He.fAd K d_farthest.at_) (ps := ps_farthest) (k := 3) (j := 6) ?_ ?_ ?_ ?_ ?_
  exact o_farthest
  exact hr
  exact c.glo 25
  exact hx
  refine da_cons ?_ ?_
  exact dv 4
  refine da_cons ?_ ?_
  exact dv 5
  exact da_nil
  exact de_int
  exact fun _ _ => rfl
  exact dv 6
  rfl
  refine dss_one ?_
  refine ds_ret ?_
  exact de_bl
  exact dss_nil
  refine dss_cons ?_ ?_
  refine ds_if ?_ ?_ ?_
  refine DW.dt ?_
  refine dw_or ?_ ?_
  refine dt_cmp op_lt lr_I0 ?_ ?_ ?_
  exact dv 6
  refine de_lenSet ?_ ?_ ?_ ?_ ?_ ?_
  rfl
  rfl
  exact c.free 45
  rfl
  exact c.free 50
  exact dv 5
  rfl
  refine dw_or1 ?_
  refine dt_cmp op_gt lr_I0 ?_ ?_ ?_
  exact dv 6
  refine de_bi (cr_len) lc_len ?_ ?_ ?_ ?_
  rfl
  exact c.free 45
  decide +kernel
  refine da_cons ?_ ?_
  exact dv 5
  exact da_nil
  rfl
  refine dss_one ?_
  refine ds_ret ?_
  exact de_bl
  exact dss_nil
  refine dss_cons ?_ ?_
  refine ds_set (i := 7) ?_ ?_ ?_ ?_
  exact sc_law.nd
  rfl
  first | exact Or.inl rfl | exact Or.inr rfl
  refine de_cf (f := He.fAd K d_curve.at_) (ps := ps_curve) (k := 6) (j := 6) ?_ ?_ ?_ ?_ ?_
  exact o_curve
  exact hr
  exact c.glo 30
  exact hx
  refine da_cons ?_ ?_
  exact de_str
  refine da_cons ?_ ?_
  exact dv 5
  refine da_cons ?_ ?_
  exact de_int
  exact da_nil
  refine dss_cons ?_ ?_
  refine ds_if ?_ ?_ ?_
  refine DW.dt ?_
  refine dw_or ?_ ?_
  refine dt_cmp (r := rNeA K) ?_ ?_ ?_ ?_ ?_
  exact op_neA hr.units
  exact lr_ne
  exact dv 7
  refine de_revS ?_
  refine de_bi (id := "sorted") (r := rSortL K) ?_ ?_ ?_ ?_ ?_ ?_
  exact cr_sortL hr.units
  exact lc_sortL
  rfl
  exact c.free 51
  decide +kernel
  refine da_cons ?_ ?_
  exact dv 7
  exact da_nil
  rfl
  refine dw_or1 ?_
  refine dt_cmp (r := rNeA K) ?_ ?_ ?_ ?_ ?_
  exact op_neA hr.units
  exact lr_ne
  refine de_ix ?_ ?_ ?_
  exact dv 7
  refine de_op op_sub lr_I0 ?_ ?_
  exact dv 4
  exact de_int
  exact fun _ _ => rfl
  refine de_ix ?_ ?_ ?_
  refine de_cf (f := He.fAd K d_run.at_) (ps := ps_run) (k := 5) (j := 6) ?_ ?_ ?_ ?_ ?_
  exact o_run
  exact hr
  exact c.glo 27
  exact hx
  refine da_cons ?_ ?_
  exact de_str
  refine da_cons ?_ ?_
  exact dv 4
  refine da_cons ?_ ?_
  exact dv 5
  exact da_nil
  exact de_int
  exact fun _ _ => rfl
  rfl
  refine dss_one ?_
  refine ds_ret ?_
  exact de_bl
  exact dss_nil
  refine dss_cons ?_ ?_
  refine ds_if ?_ ?_ ?_
  refine DW.dt ?_
  refine dw_and ?_ ?_
  refine dt_cmp op_lt lr_I0 ?_ ?_ ?_
  exact dv 4
  exact de_int
  rfl
  refine dw_and1 ?_
  refine dt_cmp op_gt lr_I0 ?_ ?_ ?_
  refine de_ix ?_ ?_ ?_
  refine de_cfd (F := o_cheapest) (dd := [dN]) (f := He.fAd K d_cheapest.at_) (ps := ps_cheapest) (k := 4) (j := 6) ?_ ?_ ?_ ?_ ?_
  exact hr
  exact c.glo 22
  exact hx
  exact fun _ => (.cons (.at _) .nil)
  refine da_cons ?_ ?_
  refine de_op op_addA lr_add ?_ ?_
  exact dv 4
  exact de_int
  refine da_cons ?_ ?_
  exact dv 5
  exact da_nil
  exact de_int
  exact fun _ _ => rfl
  exact dv 6
  rfl
  refine dss_one ?_
  refine ds_ret ?_
  exact de_bl
  exact dss_nil
  refine dss_cons ?_ ?_
  refine ds_for ?_ ?_ ?_ ?_ ?_
  exact passes_of rfl
  rfl
  refine di_range2 ?_ ?_ ?_
  rfl
  exact c.free 49
  refine da_cons ?_ ?_
  refine de_bi (cr_max2 (by rfl)) lc_two ?_ ?_ ?_ ?_
  rfl
  exact c.free 47
  decide +kernel
  refine da_cons ?_ ?_
  exact de_int
  refine da_cons ?_ ?_
  refine de_op op_sub lr_I0 ?_ ?_
  refine de_bi (cr_len) lc_len ?_ ?_ ?_ ?_
  rfl
  exact c.free 45
  decide +kernel
  refine da_cons ?_ ?_
  exact dv 5
  exact da_nil
  exact de_int
  exact da_nil
  refine da_cons ?_ ?_
  refine de_bi (cr_len) lc_len ?_ ?_ ?_ ?_
  rfl
  exact c.free 45
  decide +kernel
  refine da_cons ?_ ?_
  exact dv 5
  exact da_nil
  exact da_nil
  refine dg_name (i := 8) ?_ ?_ ?_
  exact sc_law.nd
  rfl
  first | exact Or.inl rfl | exact Or.inr rfl
  refine dss_cons ?_ ?_
  refine ds_set (i := 9) ?_ ?_ ?_ ?_
  exact sc_law.nd
  rfl
  first | exact Or.inl rfl | exact Or.inr rfl
  refine de_ix ?_ ?_ ?_
  refine de_cfd (F := o_cheapest) (dd := [dN]) (f := He.fAd K d_cheapest.at_) (ps := ps_cheapest) (k := 4) (j := 6) ?_ ?_ ?_ ?_ ?_
  exact hr
  exact c.glo 22
  exact hx
  exact fun _ => (.cons (.at _) .nil)
  refine da_cons ?_ ?_
  exact dv 4
  refine da_cons ?_ ?_
  refine de_slice ?_ ?_ ?_
  exact dv 5
  exact do_none
  refine do_some ?_
  exact dv 8
  exact da_nil
  exact de_int
  exact fun _ _ => rfl
  refine dss_one ?_
  refine ds_if ?_ ?_ ?_
  refine dt_not ?_
  refine dt_chain op_le lr_I0 op_le lr_I0 ?_ ?_ ?_
  exact de_int
  refine de_op op_sub lr_I0 ?_ ?_
  refine de_ix ?_ ?_ ?_
  refine de_cfd (F := o_cheapest) (dd := [dN]) (f := He.fAd K d_cheapest.at_) (ps := ps_cheapest) (k := 4) (j := 6) ?_ ?_ ?_ ?_ ?_
  exact hr
  exact c.glo 22
  exact hx
  exact fun _ => (.cons (.at _) .nil)
  refine da_cons ?_ ?_
  exact dv 4
  refine da_cons ?_ ?_
  refine de_slice ?_ ?_ ?_
  exact dv 5
  exact do_none
  refine do_some ?_
  refine de_op op_addA lr_add ?_ ?_
  exact dv 8
  exact de_int
  exact da_nil
  exact de_int
  exact fun _ _ => rfl
  exact dv 9
  exact de_int
  refine dss_one ?_
  refine ds_ret ?_
  exact de_bl
  exact dss_nil
  refine dss_cons ?_ ?_
  refine ds_set (i := 10) ?_ ?_ ?_ ?_
  exact sc_law.nd
  rfl
  first | exact Or.inl rfl | exact Or.inr rfl
  refine de_ty (r := rTupleA K) (call_tuple_of) lc_tuple ?_ ?_ ?_ ?_
  rfl
  exact c.free 53
  decide +kernel
  refine da_cons ?_ ?_
  refine de_lc (own := [("_law_k", 8)]) (g := (gName 8)) (tt := tYes) ?_ ?_ ?_ ?_ (fun _ _ _ _ _ => ?_) ?_ ?_ (fun _ _ _ _ _ => ?_) ?_ (fun _ _ _ _ _ => ?_)
  rfl
  exact sc_law.nd
  refine di_range1 ?_ ?_ ?_
  rfl
  exact c.free 49
  refine da_cons ?_ ?_
  exact de_int
  exact da_nil
  exact blkOk_by (N := N_law) (sc := defScope s_law) (own := [("_law_k", 8)]) (by decide +kernel)
  refine pg_name (i := 8) ?_ ?_ ?_
  exact sc_law.nd
  rfl
  first | exact Or.inl rfl | exact Or.inr rfl
  exact lg_name
  exact ownG_name (by decide)
  exact pts_nil
  exact lt_yes
  refine de_op op_addA lr_add ?_ ?_
  exact de_int
  refine de_cf (f := He.fAd K d_law_drawn.at_) (ps := ps_law_drawn) (k := 1) (j := 6) ?_ ?_ ?_ ?_ ?_
  exact o_law_drawn
  exact hr
  exact c.glo 34
  exact xok_no
  refine da_cons ?_ ?_
  exact dv 1
  refine da_cons ?_ ?_
  exact de_int
  exact da_nil
  exact da_nil
  refine dss_cons ?_ ?_
  refine ds_set (i := 11) ?_ ?_ ?_ ?_
  exact sc_law.nd
  rfl
  first | exact Or.inl rfl | exact Or.inr rfl
  refine de_ty (r := rTupleA K) (call_tuple_of) lc_tuple ?_ ?_ ?_ ?_
  rfl
  exact c.free 53
  decide +kernel
  refine da_cons ?_ ?_
  refine de_lc (own := [("_law_cost", 12)]) (g := (gName 12)) (tt := tYes) ?_ ?_ ?_ ?_ (fun _ _ _ _ _ => ?_) ?_ ?_ (fun _ _ _ _ _ => ?_) ?_ (fun _ _ _ _ _ => ?_)
  rfl
  exact sc_law.nd
  refine di_tup ?_
  exact dv 10
  exact blkOk_by (N := N_law) (sc := defScope s_law) (own := [("_law_cost", 12)]) (by decide +kernel)
  refine pg_name (i := 12) ?_ ?_ ?_
  exact sc_law.nd
  rfl
  first | exact Or.inl rfl | exact Or.inr rfl
  exact lg_name
  exact ownG_name (by decide)
  exact pts_nil
  exact lt_yes
  refine de_op op_addA lr_add ?_ ?_
  exact dv 12
  refine de_cf (f := He.fAd K d_law_drawn.at_) (ps := ps_law_drawn) (k := 1) (j := 6) ?_ ?_ ?_ ?_ ?_
  exact o_law_drawn
  exact hr
  exact c.glo 34
  exact xok_no
  refine da_cons ?_ ?_
  exact dv 1
  refine da_cons ?_ ?_
  exact de_int
  exact da_nil
  exact da_nil
  refine dss_cons ?_ ?_
  refine ds_if ?_ ?_ ?_
  refine dt_not ?_
  refine dt_chain op_le lr_I0 op_le lr_I0 ?_ ?_ ?_
  exact dv 6
  refine de_ix ?_ ?_ ?_
  refine de_cfk (dvs := [.non]) (ks := ["weights"]) (f := He.fAd K d_cheapest.at_) (ps := ps_cheapest) (k := 4) (j := 6) ?_ ?_ ?_ ?_ ?_ ?_
  exact o_cheapest
  exact hr
  exact c.glo 22
  exact hx
  refine da_cons ?_ ?_
  exact dv 4
  refine da_cons ?_ ?_
  exact dv 5
  exact da_nil
  refine dk_one ?_
  exact dv 10
  exact de_int
  exact fun _ _ => rfl
  refine de_ix ?_ ?_ ?_
  refine de_cfk (dvs := [.non]) (ks := ["weights"]) (f := He.fAd K d_cheapest.at_) (ps := ps_cheapest) (k := 4) (j := 6) ?_ ?_ ?_ ?_ ?_ ?_
  exact o_cheapest
  exact hr
  exact c.glo 22
  exact hx
  refine da_cons ?_ ?_
  exact dv 4
  refine da_cons ?_ ?_
  exact dv 5
  exact da_nil
  refine dk_one ?_
  exact dv 11
  exact de_int
  exact fun _ _ => rfl
  refine dss_one ?_
  refine ds_ret ?_
  exact de_bl
  exact dss_nil
  refine dss_cons ?_ ?_
  refine ds_if ?_ ?_ ?_
  refine DW.dt ?_
  refine dw_and ?_ ?_
  refine dt_cmp op_le lr_I0 ?_ ?_ ?_
  refine de_lenSet ?_ ?_ ?_ ?_ ?_ ?_
  rfl
  rfl
  exact c.free 45
  rfl
  exact c.free 50
  exact dv 5
  exact dv 4
  rfl
  refine dw_and1 ?_
  refine dt_cmp (r := rNeA K) ?_ ?_ ?_ ?_ ?_
  exact op_neA hr.units
  exact lr_ne
  refine de_ix ?_ ?_ ?_
  refine de_cf (f := He.fAd K d_run.at_) (ps := ps_run) (k := 5) (j := 6) ?_ ?_ ?_ ?_ ?_
  exact o_run
  exact hr
  exact c.glo 27
  exact hx
  refine da_cons ?_ ?_
  exact dv 3
  refine da_cons ?_ ?_
  exact dv 4
  refine da_cons ?_ ?_
  exact dv 5
  exact da_nil
  exact de_int
  exact fun _ _ => rfl
  refine de_lenSet ?_ ?_ ?_ ?_ ?_ ?_
  rfl
  rfl
  exact c.free 45
  rfl
  exact c.free 50
  exact dv 5
  rfl
  refine dss_one ?_
  refine ds_ret ?_
  exact de_bl
  exact dss_nil
  refine dss_cons ?_ ?_
  refine ds_set (i := 13) ?_ ?_ ?_ ?_
  exact sc_law.nd
  rfl
  first | exact Or.inl rfl | exact Or.inr rfl
  refine de_op op_addA lr_add ?_ ?_
  refine de_op op_addA lr_add ?_ ?_
  exact dv 4
  exact de_int
  refine de_cf (f := He.fAd K d_law_drawn.at_) (ps := ps_law_drawn) (k := 1) (j := 6) ?_ ?_ ?_ ?_ ?_
  exact o_law_drawn
  exact hr
  exact c.glo 34
  exact hx
  refine da_cons ?_ ?_
  exact dv 1
  refine da_cons ?_ ?_
  refine de_op op_sub lr_I0 ?_ ?_
  exact de_int
  exact dv 4
  exact da_nil
  refine dss_cons ?_ ?_
  refine ds_set (i := 14) ?_ ?_ ?_ ?_
  exact sc_law.nd
  rfl
  first | exact Or.inl rfl | exact Or.inr rfl
  refine de_cf (f := He.fAd K d_cruel.at_) (ps := ps_cruel) (k := 4) (j := 6) ?_ ?_ ?_ ?_ ?_
  exact o_cruel
  exact hr
  exact c.glo 31
  exact hx
  refine da_cons ?_ ?_
  exact dv 3
  refine da_cons ?_ ?_
  exact dv 4
  refine da_cons ?_ ?_
  exact dv 13
  refine da_cons ?_ ?_
  refine de_cf (f := He.fAd K d_law_drawn.at_) (ps := ps_law_drawn) (k := 1) (j := 6) ?_ ?_ ?_ ?_ ?_
  exact o_law_drawn
  exact hr
  exact c.glo 34
  exact hx
  refine da_cons ?_ ?_
  exact dv 1
  refine da_cons ?_ ?_
  exact de_int
  exact da_nil
  exact da_nil
  refine dss_cons ?_ ?_
  refine ds_if ?_ ?_ ?_
  refine DW.dt ?_
  refine dw_or ?_ ?_
  refine dt_cmp (r := rNeA K) ?_ ?_ ?_ ?_ ?_
  exact op_neA hr.units
  exact lr_ne
  refine de_ix ?_ ?_ ?_
  refine de_cf (f := He.fAd K d_run.at_) (ps := ps_run) (k := 5) (j := 6) ?_ ?_ ?_ ?_ ?_
  exact o_run
  exact hr
  exact c.glo 27
  exact hx
  refine da_cons ?_ ?_
  exact dv 3
  refine da_cons ?_ ?_
  exact dv 4
  refine da_cons ?_ ?_
  exact dv 14
  exact da_nil
  exact de_int
  exact fun _ _ => rfl
  refine de_bi (cr_len) lc_len ?_ ?_ ?_ ?_
  rfl
  exact c.free 45
  decide +kernel
  refine da_cons ?_ ?_
  exact dv 14
  exact da_nil
  rfl
  refine dw_or1 ?_
  refine dt_cmp (r := rNeA K) ?_ ?_ ?_ ?_ ?_
  exact op_neA hr.units
  exact lr_ne
  refine de_lc (own := [("_law_page", 15)]) (g := (gName 15)) (tt := (upT K B (dNot (dTest (dChain (dI0 fun i j => .bl (decide (i ≤ j))) (dI0 fun i j => .bl (decide (i < j))) (dC (dI 0)) (dVar 15) (dVar 13)))))) ?_ ?_ ?_ ?_ (fun _ _ _ _ _ => ?_) ?_ ?_ (fun _ _ _ _ _ => ?_) ?_ (fun _ _ _ _ _ => ?_)
  rfl
  exact sc_law.nd
  refine di_tup ?_
  exact dv 14
  exact blkOk_by (N := N_law) (sc := defScope s_law) (own := [("_law_page", 15)]) (by decide +kernel)
  refine pg_name (i := 15) ?_ ?_ ?_
  exact sc_law.nd
  rfl
  first | exact Or.inl rfl | exact Or.inr rfl
  exact lg_name
  exact ownG_name (by decide)
  refine pts_oneU ?_
  refine dt_not ?_
  refine dt_chain op_le lr_I0 op_lt lr_I0 ?_ ?_ ?_
  exact de_int
  exact dv 15
  exact dv 13
  exact upT_le
  exact dv 15
  refine de_lst ?_
  exact da_nil
  rfl
  refine dss_one ?_
  refine ds_ret ?_
  exact de_bl
  exact dss_nil
  refine dss_one ?_
  refine ds_for ?_ ?_ ?_ ?_ ?_
  exact passes_of rfl
  rfl
  refine di_range1 ?_ ?_ ?_
  rfl
  exact c.free 49
  refine da_cons ?_ ?_
  refine de_bi (cr_len) lc_len ?_ ?_ ?_ ?_
  rfl
  exact c.free 45
  decide +kernel
  refine da_cons ?_ ?_
  exact dv 14
  exact da_nil
  exact da_nil
  refine dg_name (i := 8) ?_ ?_ ?_
  exact sc_law.nd
  rfl
  first | exact Or.inl rfl | exact Or.inr rfl
  refine dss_cons ?_ ?_
  refine ds_set (i := 16) ?_ ?_ ?_ ?_
  exact sc_law.nd
  rfl
  first | exact Or.inl rfl | exact Or.inr rfl
  refine de_ix ?_ ?_ ?_
  refine de_cf (f := He.fAd K d_run.at_) (ps := ps_run) (k := 5) (j := 6) ?_ ?_ ?_ ?_ ?_
  exact o_run
  exact hr
  exact c.glo 27
  exact hx
  refine da_cons ?_ ?_
  exact dv 3
  refine da_cons ?_ ?_
  exact dv 4
  refine da_cons ?_ ?_
  refine de_slice ?_ ?_ ?_
  exact dv 14
  exact do_none
  refine do_some ?_
  exact dv 8
  exact da_nil
  exact de_int
  exact fun _ _ => rfl
  refine dss_one ?_
  refine ds_if ?_ ?_ ?_
  refine dt_cmp (r := rNeA K) ?_ ?_ ?_ ?_ ?_
  exact op_neA hr.units
  exact lr_ne
  refine de_lc (own := [("_law_page", 15)]) (g := (gName 15)) (tt := (upT K B (dTest (dOp dNotin (dVar 15) (dVar 16))))) ?_ ?_ ?_ ?_ (fun _ _ _ _ _ => ?_) ?_ ?_ (fun _ _ _ _ _ => ?_) ?_ (fun _ _ _ _ _ => ?_)
  rfl
  exact sc_law.nd
  refine di_range1 ?_ ?_ ?_
  rfl
  exact c.free 49
  refine da_cons ?_ ?_
  refine de_ix ?_ ?_ ?_
  exact dv 14
  exact dv 8
  exact fun _ _ => rfl
  exact da_nil
  exact blkOk_by (N := N_law) (sc := defScope s_law) (own := [("_law_page", 15)]) (by decide +kernel)
  refine pg_name (i := 15) ?_ ?_ ?_
  exact sc_law.nd
  rfl
  first | exact Or.inl rfl | exact Or.inr rfl
  exact lg_name
  exact ownG_name (by decide)
  refine pts_oneU ?_
  refine dt_cmp (r := rInA K not true) ?_ ?_ ?_ ?_ ?_
  exact op_notinA (hu_of hr)
  exact lr_notin
  exact dv 15
  exact dv 16
  rfl
  exact upT_le
  exact dv 15
  refine de_lst ?_
  exact da_nil
  rfl
  refine dss_one ?_
  refine ds_ret ?_
  exact de_bl
  exact dss_nil
  refine dss_one ?_
  refine ds_ret ?_
  exact de_bl
theorem ok_is_number (c : Fx fa fn ex K mg) : OkF P w K mg base 1 (He.fAd K d_is_number.at_) ps_is_number (dsp_is_number K) := by
  obtain ⟨fd, F⟩ := c.def_ 1 (d := d_is_number)
  refine ⟨fd, dfn F sc_is_number (fun ds G Q E h => len_is_number h) (fun cdv A outer s H E ds G QD ED hr h g hx => ⟨_, dv_is_number c  hr hx, pure_is_number h⟩), F.bindsN fun _ _ _ _ _ _ us hl => match us, hl with | [_, _, _], _ => rfl, F.kp⟩
theorem ok_need_rule (c : Fx fa fn ex K mg) : OkF P w K mg base 1 (He.fAd K d_need_rule.at_) ps_need_rule (dsp_need_rule K) := by
  obtain ⟨fd, F⟩ := c.def_ 2 (d := d_need_rule)
  refine ⟨fd, dfn F sc_need_rule (fun ds G Q E h => len_need_rule h) (fun cdv A outer s H E ds G QD ED hr h g hx => ⟨_, dv_need_rule c  hr hx, pure_need_rule h⟩), F.bindsN fun _ _ _ _ _ _ us hl => match us, hl with | [_], _ => rfl, F.kp⟩
theorem ok_need_size (c : Fx fa fn ex K mg) (o_is_number : OkF P w K mg base 1 (He.fAd K d_is_number.at_) ps_is_number (dsp_is_number K)) : OkF P w K mg base 2 (He.fAd K d_need_size.at_) ps_need_size (dsp_need_size K) := by
  obtain ⟨fd, F⟩ := c.def_ 3 (d := d_need_size)
  refine ⟨fd, dfn F sc_need_size (fun ds G Q E h => len_need_size h) (fun cdv A outer s H E ds G QD ED hr h g hx => ⟨_, dv_need_size c o_is_number hr hx, pure_need_size h⟩), F.bindsN fun _ _ _ _ _ _ us hl => match us, hl with | [_], _ => rfl, F.kp⟩
theorem ok_need_stream (c : Fx fa fn ex K mg) (o_is_number : OkF P w K mg base 1 (He.fAd K d_is_number.at_) ps_is_number (dsp_is_number K)) : OkF P w K mg base 2 (He.fAd K d_need_stream.at_) ps_need_stream (dsp_need_stream K) := by
  obtain ⟨fd, F⟩ := c.def_ 4 (d := d_need_stream)
  refine ⟨fd, dfn F sc_need_stream (fun ds G Q E h => len_need_stream h) (fun cdv A outer s H E ds G QD ED hr h g hx => ⟨_, dv_need_stream c o_is_number hr hx, pure_need_stream h⟩), F.bindsN fun _ _ _ _ _ _ us hl => match us, hl with | [_], _ => rfl, F.kp⟩
theorem ok_pages_of (c : Fx fa fn ex K mg) : OkF P w K mg base 1 (He.fAd K d_pages_of.at_) ps_pages_of (dsp_pages_of K) := by
  obtain ⟨fd, F⟩ := c.def_ 5 (d := d_pages_of)
  refine ⟨fd, dfn F sc_pages_of (fun ds G Q E h => len_pages_of h) (fun cdv A outer s H E ds G QD ED hr h g hx => ⟨_, dv_pages_of c  hr hx, pure_pages_of h⟩), F.bindsN fun _ _ _ _ _ _ us hl => match us, hl with | [_], _ => rfl, F.kp⟩
theorem ok_started (c : Fx fa fn ex K mg) : OkF P w K mg base 1 (He.fAd K d_started.at_) ps_started (dsp_started K) := by
  obtain ⟨fd, F⟩ := c.def_ 6 (d := d_started)
  refine ⟨fd, dfn F sc_started (fun ds G Q E h => len_started h) (fun cdv A outer s H E ds G QD ED hr h g hx => ⟨_, dv_started c  hr hx, pure_started h⟩), F.bindsN fun _ _ _ _ _ _ us hl => match us, hl with | [], _ => rfl, F.kp⟩
theorem ok_hit (c : Fx fa fn ex K mg) : OkF P w K mg base 1 (He.fAd K d_hit.at_) ps_hit (dsp_hit K) := by
  obtain ⟨fd, F⟩ := c.def_ 7 (d := d_hit)
  refine ⟨fd, dfn F sc_hit (fun ds G Q E h => len_hit h) (fun cdv A outer s H E ds G QD ED hr h g hx => ⟨_, dv_hit c  hr hx, pure_hit h⟩), F.bindsN fun _ _ _ _ _ _ us hl => match us, hl with | [_, _, _], _ => rfl, F.kp⟩
theorem ok_loser (c : Fx fa fn ex K mg) : OkF P w K mg base 1 (He.fAd K d_loser.at_) ps_loser (dsp_loser K) := by
  obtain ⟨fd, F⟩ := c.def_ 8 (d := d_loser)
  refine ⟨fd, dfn F sc_loser (fun ds G Q E h => len_loser h) (fun cdv A outer s H E ds G QD ED hr h g hx => ⟨_, dv_loser c  hr hx, pure_loser h⟩), F.bindsN fun _ _ _ _ _ _ us hl => match us, hl with | [_, _, _], _ => rfl, F.kp⟩
theorem ok_mark_of (c : Fx fa fn ex K mg) : OkF P w K mg base 1 (He.fAd K d_mark_of.at_) ps_mark_of (dsp_mark_of K) := by
  obtain ⟨fd, F⟩ := c.def_ 9 (d := d_mark_of)
  refine ⟨fd, dfn F sc_mark_of (fun ds G Q E h => len_mark_of h) (fun cdv A outer s H E ds G QD ED hr h g hx => ⟨_, dv_mark_of c  hr hx, pure_mark_of h⟩), F.bindsN fun _ _ _ _ _ _ us hl => match us, hl with | [_], _ => rfl, F.kp⟩
theorem ok_miss (c : Fx fa fn ex K mg) (o_mark_of : OkF P w K mg base 1 (He.fAd K d_mark_of.at_) ps_mark_of (dsp_mark_of K)) (o_loser : OkF P w K mg base 1 (He.fAd K d_loser.at_) ps_loser (dsp_loser K)) : OkF P w K mg base 2 (He.fAd K d_miss.at_) ps_miss (dsp_miss K) := by
  obtain ⟨fd, F⟩ := c.def_ 10 (d := d_miss)
  refine ⟨fd, dfn F sc_miss (fun ds G Q E h => len_miss h) (fun cdv A outer s H E ds G QD ED hr h g hx => ⟨_, dv_miss c o_mark_of o_loser hr hx, pure_miss h⟩), F.bindsN fun _ _ _ _ _ _ us hl => match us, hl with | [_, _, _, _, _], _ => rfl, F.kp⟩
theorem ok_asked (c : Fx fa fn ex K mg) (o_pages_of : OkF P w K mg base 1 (He.fAd K d_pages_of.at_) ps_pages_of (dsp_pages_of K)) (o_hit : OkF P w K mg base 1 (He.fAd K d_hit.at_) ps_hit (dsp_hit K)) (o_miss : OkF P w K mg base 2 (He.fAd K d_miss.at_) ps_miss (dsp_miss K)) : OkF P w K mg base 3 (He.fAd K d_asked.at_) ps_asked (dsp_asked K) := by
  obtain ⟨fd, F⟩ := c.def_ 11 (d := d_asked)
  refine ⟨fd, dfn F sc_asked (fun ds G Q E h => len_asked h) (fun cdv A outer s H E ds G QD ED hr h g hx => ⟨_, dv_asked c o_pages_of o_hit o_miss hr hx, pure_asked h⟩), F.bindsN fun _ _ _ _ _ _ us hl => match us, hl with | [_, _, _, _], _ => rfl, F.kp⟩
theorem ok_need_costs (c : Fx fa fn ex K mg) (o_is_number : OkF P w K mg base 1 (He.fAd K d_is_number.at_) ps_is_number (dsp_is_number K)) : OkF P w K mg base 2 (He.fAd K d_need_costs.at_) ps_need_costs (dsp_need_costs K) := by
  obtain ⟨fd, F⟩ := c.def_ 12 (d := d_need_costs)
  refine ⟨fd, dfn F sc_need_costs (fun ds G Q E h => len_need_costs h) (fun cdv A outer s H E ds G QD ED hr h g hx => ⟨_, dv_need_costs c o_is_number hr hx, pure_need_costs h⟩), F.bindsN fun _ _ _ _ _ _ us hl => match us, hl with | [_], _ => rfl, F.kp⟩
theorem ok_cost_of (c : Fx fa fn ex K mg) : OkF P w K mg base 1 (He.fAd K d_cost_of.at_) ps_cost_of (dsp_cost_of K) := by
  obtain ⟨fd, F⟩ := c.def_ 13 (d := d_cost_of)
  refine ⟨fd, dfn F sc_cost_of (fun ds G Q E h => len_cost_of h) (fun cdv A outer s H E ds G QD ED hr h g hx => ⟨_, dv_cost_of c  hr hx, pure_cost_of h⟩), F.bindsN fun _ _ _ _ _ _ us hl => match us, hl with | [_, _], _ => rfl, F.kp⟩
theorem ok_moves (c : Fx fa fn ex K mg) : OkF P w K mg base 1 (He.fAd K d_moves.at_) ps_moves (dsp_moves K) := by
  obtain ⟨fd, F⟩ := c.def_ 14 (d := d_moves)
  refine ⟨fd, dfn F sc_moves (fun ds G Q E h => len_moves h) (fun cdv A outer s H E ds G QD ED hr h g hx => ⟨_, dv_moves c  hr hx, pure_moves h⟩), F.bindsN fun _ _ _ _ _ _ us hl => match us, hl with | [_, _, _], _ => rfl, F.kp⟩
theorem ok_work_behind (c : Fx fa fn ex K mg) (o_moves : OkF P w K mg base 1 (He.fAd K d_moves.at_) ps_moves (dsp_moves K)) : OkF P w K mg base 2 (He.fAd K d_work_behind.at_) ps_work_behind (dsp_work_behind K) := by
  obtain ⟨fd, F⟩ := c.def_ 15 (d := d_work_behind)
  refine ⟨fd, dfn F sc_work_behind (fun ds G Q E h => len_work_behind h) (fun cdv A outer s H E ds G QD ED hr h g hx => ⟨_, dv_work_behind c o_moves hr hx, pure_work_behind h⟩), F.bindsN fun _ _ _ _ _ _ us hl => match us, hl with | [_, _, _, _], _ => rfl, F.kp⟩
theorem ok_works_of (c : Fx fa fn ex K mg) (o_work_behind : OkF P w K mg base 2 (He.fAd K d_work_behind.at_) ps_work_behind (dsp_work_behind K)) (o_cost_of : OkF P w K mg base 1 (He.fAd K d_cost_of.at_) ps_cost_of (dsp_cost_of K)) : OkF P w K mg base 3 (He.fAd K d_works_of.at_) ps_works_of (dsp_works_of K) := by
  obtain ⟨fd, F⟩ := c.def_ 16 (d := d_works_of)
  refine ⟨fd, dfn F sc_works_of (fun ds G Q E h => len_works_of h) (fun cdv A outer s H E ds G QD ED hr h g hx => ⟨_, dv_works_of c o_work_behind o_cost_of hr hx, pure_works_of h⟩), F.bindsN fun _ _ _ _ _ _ us hl => match us, hl with | [_, _, _], _ => rfl, F.kp⟩
theorem ok_step_back (c : Fx fa fn ex K mg) (o_cost_of : OkF P w K mg base 1 (He.fAd K d_cost_of.at_) ps_cost_of (dsp_cost_of K)) (o_moves : OkF P w K mg base 1 (He.fAd K d_moves.at_) ps_moves (dsp_moves K)) : OkF P w K mg base 2 (He.fAd K d_step_back.at_) ps_step_back (dsp_step_back K) := by
  obtain ⟨fd, F⟩ := c.def_ 18 (d := d_step_back)
  refine ⟨fd, dfn F sc_step_back (fun ds G Q E h => len_step_back h) (fun cdv A outer s H E ds G QD ED hr h g hx => ⟨_, dv_step_back c o_cost_of o_moves hr hx, pure_step_back h⟩), F.bindsN fun _ _ _ _ _ _ us hl => match us, hl with | [_, _, _, _, _, _], _ => rfl, F.kp⟩
theorem ok_cheapest (c : Fx fa fn ex K mg) (o_need_size : OkF P w K mg base 2 (He.fAd K d_need_size.at_) ps_need_size (dsp_need_size K)) (o_need_stream : OkF P w K mg base 2 (He.fAd K d_need_stream.at_) ps_need_stream (dsp_need_stream K)) (o_need_costs : OkF P w K mg base 2 (He.fAd K d_need_costs.at_) ps_need_costs (dsp_need_costs K)) (o_works_of : OkF P w K mg base 3 (He.fAd K d_works_of.at_) ps_works_of (dsp_works_of K)) (o_step_back : OkF P w K mg base 2 (He.fAd K d_step_back.at_) ps_step_back (dsp_step_back K)) : OkFd P w K mg base 4 (He.fAd K d_cheapest.at_) ps_cheapest (dsp_cheapest K) [.non] ["weights"] := by
  obtain ⟨fd, F⟩ := c.def_ 17 (d := d_cheapest)
  refine ⟨fd, dfn F sc_cheapest (fun ds G Q E h => len_cheapest h) (fun cdv A outer s H E ds G QD ED hr h g hx => ⟨_, dv_cheapest c o_need_size o_need_stream o_need_costs o_works_of o_step_back hr hx, pure_cheapest h⟩), ?_, ?_, F.kp⟩
  · exact F.binds0 2 (List.cons_ne_nil _ _) rfl fun D doc pm an cdv ct us ks h1 h2 => match us, ks, h1, h2 with | [u0, u1], [k0], _, _ => ⟨_, _, _, _, _, _, rfl, rfl, rfl⟩
  · obtain ⟨oc, od, dV, kV, doc, pm, an, cdv, ct, osl, rfl, lk, hcd, hD, hK⟩ := F.ex
    rcases hD with ⟨_, rfl⟩ | ⟨e, _⟩
    · exact ⟨fun us ws => us ++ ws, ⟨fun s us ws X h1 h2 => match us, ws, h1, h2 with | [u0, u1], [k0], _, _ => .of_eq rfl, fun r1 r2 => r1.append r2⟩⟩
    · exact absurd rfl e
theorem ok_next_ask (c : Fx fa fn ex K mg) : OkF P w K mg base 1 (He.fAd K d_next_ask.at_) ps_next_ask (dsp_next_ask K) := by
  obtain ⟨fd, F⟩ := c.def_ 19 (d := d_next_ask)
  refine ⟨fd, dfn F sc_next_ask (fun ds G Q E h => len_next_ask h) (fun cdv A outer s H E ds G QD ED hr h g hx => ⟨_, dv_next_ask c  hr hx, pure_next_ask h⟩), F.bindsN fun _ _ _ _ _ _ us hl => match us, hl with | [_, _, _], _ => rfl, F.kp⟩
theorem ok_farthest (c : Fx fa fn ex K mg) (o_need_size : OkF P w K mg base 2 (He.fAd K d_need_size.at_) ps_need_size (dsp_need_size K)) (o_need_stream : OkF P w K mg base 2 (He.fAd K d_need_stream.at_) ps_need_stream (dsp_need_stream K)) (o_next_ask : OkF P w K mg base 1 (He.fAd K d_next_ask.at_) ps_next_ask (dsp_next_ask K)) : OkF P w K mg base 3 (He.fAd K d_farthest.at_) ps_farthest (dsp_farthest K) := by
  obtain ⟨fd, F⟩ := c.def_ 20 (d := d_farthest)
  refine ⟨fd, dfn F sc_farthest (fun ds G Q E h => len_farthest h) (fun cdv A outer s H E ds G QD ED hr h g hx => ⟨_, dv_farthest c o_need_size o_need_stream o_next_ask hr hx, pure_farthest h⟩), F.bindsN fun _ _ _ _ _ _ us hl => match us, hl with | [_, _], _ => rfl, F.kp⟩
theorem ok_run_by (c : Fx fa fn ex K mg) (o_started : OkF P w K mg base 1 (He.fAd K d_started.at_) ps_started (dsp_started K)) (o_asked : OkF P w K mg base 3 (He.fAd K d_asked.at_) ps_asked (dsp_asked K)) : OkF P w K mg base 4 (He.fAd K d_run_by.at_) ps_run_by (dsp_run_by K) := by
  obtain ⟨fd, F⟩ := c.def_ 21 (d := d_run_by)
  refine ⟨fd, dfn F sc_run_by (fun ds G Q E h => len_run_by h) (fun cdv A outer s H E ds G QD ED hr h g hx => ⟨_, dv_run_by c o_started o_asked hr hx, pure_run_by h⟩), F.bindsN fun _ _ _ _ _ _ us hl => match us, hl with | [_, _, _], _ => rfl, F.kp⟩
theorem ok_misses_in (c : Fx fa fn ex K mg) : OkF P w K mg base 1 (He.fAd K d_misses_in.at_) ps_misses_in (dsp_misses_in K) := by
  obtain ⟨fd, F⟩ := c.def_ 23 (d := d_misses_in)
  refine ⟨fd, dfn F sc_misses_in (fun ds G Q E h => len_misses_in h) (fun cdv A outer s H E ds G QD ED hr h g hx => ⟨_, dv_misses_in c  hr hx, pure_misses_in h⟩), F.bindsN fun _ _ _ _ _ _ us hl => match us, hl with | [_], _ => rfl, F.kp⟩
theorem ok_run (c : Fx fa fn ex K mg) (o_need_rule : OkF P w K mg base 1 (He.fAd K d_need_rule.at_) ps_need_rule (dsp_need_rule K)) (o_need_size : OkF P w K mg base 2 (He.fAd K d_need_size.at_) ps_need_size (dsp_need_size K)) (o_need_stream : OkF P w K mg base 2 (He.fAd K d_need_stream.at_) ps_need_stream (dsp_need_stream K)) (o_run_by : OkF P w K mg base 4 (He.fAd K d_run_by.at_) ps_run_by (dsp_run_by K)) (o_misses_in : OkF P w K mg base 1 (He.fAd K d_misses_in.at_) ps_misses_in (dsp_misses_in K)) (o_pages_of : OkF P w K mg base 1 (He.fAd K d_pages_of.at_) ps_pages_of (dsp_pages_of K)) : OkF P w K mg base 5 (He.fAd K d_run.at_) ps_run (dsp_run K) := by
  obtain ⟨fd, F⟩ := c.def_ 22 (d := d_run)
  refine ⟨fd, dfn F sc_run (fun ds G Q E h => len_run h) (fun cdv A outer s H E ds G QD ED hr h g hx => ⟨_, dv_run c o_need_rule o_need_size o_need_stream o_run_by o_misses_in o_pages_of hr hx, pure_run h⟩), F.bindsN fun _ _ _ _ _ _ us hl => match us, hl with | [_, _, _], _ => rfl, F.kp⟩
theorem ok_misses_by (c : Fx fa fn ex K mg) (o_misses_in : OkF P w K mg base 1 (He.fAd K d_misses_in.at_) ps_misses_in (dsp_misses_in K)) (o_run_by : OkF P w K mg base 4 (He.fAd K d_run_by.at_) ps_run_by (dsp_run_by K)) : OkF P w K mg base 5 (He.fAd K d_misses_by.at_) ps_misses_by (dsp_misses_by K) := by
  obtain ⟨fd, F⟩ := c.def_ 24 (d := d_misses_by)
  refine ⟨fd, dfn F sc_misses_by (fun ds G Q E h => len_misses_by h) (fun cdv A outer s H E ds G QD ED hr h g hx => ⟨_, dv_misses_by c o_misses_in o_run_by hr hx, pure_misses_by h⟩), F.bindsN fun _ _ _ _ _ _ us hl => match us, hl with | [_, _, _], _ => rfl, F.kp⟩
theorem ok_curve (c : Fx fa fn ex K mg) (o_need_rule : OkF P w K mg base 1 (He.fAd K d_need_rule.at_) ps_need_rule (dsp_need_rule K)) (o_need_stream : OkF P w K mg base 2 (He.fAd K d_need_stream.at_) ps_need_stream (dsp_need_stream K)) (o_is_number : OkF P w K mg base 1 (He.fAd K d_is_number.at_) ps_is_number (dsp_is_number K)) (o_misses_by : OkF P w K mg base 5 (He.fAd K d_misses_by.at_) ps_misses_by (dsp_misses_by K)) : OkF P w K mg base 6 (He.fAd K d_curve.at_) ps_curve (dsp_curve K) := by
  obtain ⟨fd, F⟩ := c.def_ 25 (d := d_curve)
  refine ⟨fd, dfn F sc_curve (fun ds G Q E h => len_curve h) (fun cdv A outer s H E ds G QD ED hr h g hx => ⟨_, dv_curve c o_need_rule o_need_stream o_is_number o_misses_by hr hx, pure_curve h⟩), F.bindsN fun _ _ _ _ _ _ us hl => match us, hl with | [_, _, _], _ => rfl, F.kp⟩
theorem ok_need_pages (c : Fx fa fn ex K mg) (o_is_number : OkF P w K mg base 1 (He.fAd K d_is_number.at_) ps_is_number (dsp_is_number K)) : OkF P w K mg base 2 (He.fAd K d_need_pages.at_) ps_need_pages (dsp_need_pages K) := by
  obtain ⟨fd, F⟩ := c.def_ 27 (d := d_need_pages)
  refine ⟨fd, dfn F sc_need_pages (fun ds G Q E h => len_need_pages h) (fun cdv A outer s H E ds G QD ED hr h g hx => ⟨_, dv_need_pages c o_is_number hr hx, pure_need_pages h⟩), F.bindsN fun _ _ _ _ _ _ us hl => match us, hl with | [_, _, _], _ => rfl, F.kp⟩
theorem ok_cruel (c : Fx fa fn ex K mg) (o_need_rule : OkF P w K mg base 1 (He.fAd K d_need_rule.at_) ps_need_rule (dsp_need_rule K)) (o_need_size : OkF P w K mg base 2 (He.fAd K d_need_size.at_) ps_need_size (dsp_need_size K)) (o_need_pages : OkF P w K mg base 2 (He.fAd K d_need_pages.at_) ps_need_pages (dsp_need_pages K)) (o_started : OkF P w K mg base 1 (He.fAd K d_started.at_) ps_started (dsp_started K)) (o_pages_of : OkF P w K mg base 1 (He.fAd K d_pages_of.at_) ps_pages_of (dsp_pages_of K)) (o_asked : OkF P w K mg base 3 (He.fAd K d_asked.at_) ps_asked (dsp_asked K)) : OkF P w K mg base 4 (He.fAd K d_cruel.at_) ps_cruel (dsp_cruel K) := by
  obtain ⟨fd, F⟩ := c.def_ 26 (d := d_cruel)
  refine ⟨fd, dfn F sc_cruel (fun ds G Q E h => len_cruel h) (fun cdv A outer s H E ds G QD ED hr h g hx => ⟨_, dv_cruel c o_need_rule o_need_size o_need_pages o_started o_pages_of o_asked hr hx, pure_cruel h⟩), F.bindsN fun _ _ _ _ _ _ us hl => match us, hl with | [_, _, _, _], _ => rfl, F.kp⟩
theorem ok_law_start (c : Fx fa fn ex K mg) : OkF P w K mg base 1 (He.fAd K d_law_start.at_) ps_law_start (dsp_law_start K) := by
  obtain ⟨fd, F⟩ := c.def_ 28 (d := d_law_start)
  refine ⟨fd, dfn F sc_law_start (fun ds G Q E h => len_law_start h) (fun cdv A outer s H E ds G QD ED hr h g hx => ⟨_, dv_law_start c  hr hx, pure_law_start h⟩), F.bindsN fun _ _ _ _ _ _ us hl => match us, hl with | [_], _ => rfl, F.kp⟩
theorem ok_law_drawn (c : Fx fa fn ex K mg) : OkF P w K mg base 1 (He.fAd K d_law_drawn.at_) ps_law_drawn (dsp_law_drawn K) := by
  obtain ⟨fd, F⟩ := c.def_ 29 (d := d_law_drawn)
  refine ⟨fd, dfn F sc_law_drawn (fun ds G Q E h => len_law_drawn h) (fun cdv A outer s H E ds G QD ED hr h g hx => ⟨_, dv_law_drawn c  hr hx, pure_law_drawn h⟩), F.bindsN fun _ _ _ _ _ _ us hl => match us, hl with | [_, _], _ => rfl, F.kp⟩
theorem ok_law_rule (c : Fx fa fn ex K mg) (o_law_drawn : OkF P w K mg base 1 (He.fAd K d_law_drawn.at_) ps_law_drawn (dsp_law_drawn K)) : OkF P w K mg base 2 (He.fAd K d_law_rule.at_) ps_law_rule (dsp_law_rule K) := by
  obtain ⟨fd, F⟩ := c.def_ 30 (d := d_law_rule)
  refine ⟨fd, dfn F sc_law_rule (fun ds G Q E h => len_law_rule h) (fun cdv A outer s H E ds G QD ED hr h g hx => ⟨_, dv_law_rule c o_law_drawn hr hx, pure_law_rule h⟩), F.bindsN fun _ _ _ _ _ _ us hl => match us, hl with | [_], _ => rfl, F.kp⟩
theorem ok_law_stream (c : Fx fa fn ex K mg) (o_law_drawn : OkF P w K mg base 1 (He.fAd K d_law_drawn.at_) ps_law_drawn (dsp_law_drawn K)) : OkF P w K mg base 2 (He.fAd K d_law_stream.at_) ps_law_stream (dsp_law_stream K) := by
  obtain ⟨fd, F⟩ := c.def_ 31 (d := d_law_stream)
  refine ⟨fd, dfn F sc_law_stream (fun ds G Q E h => len_law_stream h) (fun cdv A outer s H E ds G QD ED hr h g hx => ⟨_, dv_law_stream c o_law_drawn hr hx, pure_law_stream h⟩), F.bindsN fun _ _ _ _ _ _ us hl => match us, hl with | [_, _, _], _ => rfl, F.kp⟩
theorem all_ok (c : Fx fa fn ex K mg) {fd : FuncData} (F : FunD K d_law.name d_law.qual d_law.params d_law.body d_law.scope (d_law.dvs K) (d_law.kws K) (He.fAd K d_law.at_) fd) : FnOk P w K mg base (L2.CX P w) 7 (He.fAd K d_law.at_) fd ps_law (spV K dspLaw) := by
  have o_is_number := ok_is_number (P := P) (w := w) (base := base) c 
  have o_need_rule := ok_need_rule (P := P) (w := w) (base := base) c 
  have o_need_size := ok_need_size (P := P) (w := w) (base := base) c o_is_number
  have o_need_stream := ok_need_stream (P := P) (w := w) (base := base) c o_is_number
  have o_pages_of := ok_pages_of (P := P) (w := w) (base := base) c 
  have o_started := ok_started (P := P) (w := w) (base := base) c 
  have o_hit := ok_hit (P := P) (w := w) (base := base) c 
  have o_loser := ok_loser (P := P) (w := w) (base := base) c 
  have o_mark_of := ok_mark_of (P := P) (w := w) (base := base) c 
  have o_miss := ok_miss (P := P) (w := w) (base := base) c o_mark_of o_loser
  have o_asked := ok_asked (P := P) (w := w) (base := base) c o_pages_of o_hit o_miss
  have o_need_costs := ok_need_costs (P := P) (w := w) (base := base) c o_is_number
  have o_cost_of := ok_cost_of (P := P) (w := w) (base := base) c 
  have o_moves := ok_moves (P := P) (w := w) (base := base) c 
  have o_work_behind := ok_work_behind (P := P) (w := w) (base := base) c o_moves
  have o_works_of := ok_works_of (P := P) (w := w) (base := base) c o_work_behind o_cost_of
  have o_step_back := ok_step_back (P := P) (w := w) (base := base) c o_cost_of o_moves
  have o_cheapest := ok_cheapest (P := P) (w := w) (base := base) c o_need_size o_need_stream o_need_costs o_works_of o_step_back
  have o_next_ask := ok_next_ask (P := P) (w := w) (base := base) c 
  have o_farthest := ok_farthest (P := P) (w := w) (base := base) c o_need_size o_need_stream o_next_ask
  have o_run_by := ok_run_by (P := P) (w := w) (base := base) c o_started o_asked
  have o_misses_in := ok_misses_in (P := P) (w := w) (base := base) c 
  have o_run := ok_run (P := P) (w := w) (base := base) c o_need_rule o_need_size o_need_stream o_run_by o_misses_in o_pages_of
  have o_misses_by := ok_misses_by (P := P) (w := w) (base := base) c o_misses_in o_run_by
  have o_curve := ok_curve (P := P) (w := w) (base := base) c o_need_rule o_need_stream o_is_number o_misses_by
  have o_need_pages := ok_need_pages (P := P) (w := w) (base := base) c o_is_number
  have o_cruel := ok_cruel (P := P) (w := w) (base := base) c o_need_rule o_need_size o_need_pages o_started o_pages_of o_asked
  have o_law_start := ok_law_start (P := P) (w := w) (base := base) c 
  have o_law_drawn := ok_law_drawn (P := P) (w := w) (base := base) c 
  have o_law_rule := ok_law_rule (P := P) (w := w) (base := base) c o_law_drawn
  have o_law_stream := ok_law_stream (P := P) (w := w) (base := base) c o_law_drawn
  exact dfn F sc_law (fun ds G Q E h => len_law h) (fun cdv A outer s H E ds G QD ED hr h g hx => ⟨_, dv_law c o_law_start o_law_rule o_law_drawn o_law_stream o_cheapest o_run o_farthest o_curve o_cruel hr hx, pure_law h⟩)
end
end K03
open PySem PySem.W PySem.Calls PyProof.Rows
theorem PySem.Challenge.cw_cachebet_k03_whole_no_rule_is_better_holds : PySem.Challenge.rw_cachebet_k03_whole_no_rule_is_better.Holds := by
  w_on; o_law
  refine HandSHeadRun.head_any (r := OpenLaw.row PySem.Challenge.rw_cachebet_k03_whole_no_rule_is_better) (q := view (OpenLaw.row PySem.Challenge.rw_cachebet_k03_whole_no_rule_is_better).prog [47]) (H := K03.hk) (ob := K03.ob) (M := 6000) (loose := K03.loose) (d := HandSHeadRun.topDef (OpenLaw.row PySem.Challenge.rw_cachebet_k03_whole_no_rule_is_better).prog 47) (kwd := []) K03.ob_eq
    (by kernel_rfl) (fun s => by kernel_rfl) K03.run (by kernel_rfl) (by kernel_rfl) (by kernel_rfl) (by rfl) (by first | assumption | decide +kernel) (by decide +kernel) ⟨rfl, rfl, rfl, rfl, rfl, by decide +kernel⟩ ?hw ?hc
  case hw => w_witness2
  case hc =>
    refine Dl.walk_dl (l := PySem.Challenge.rw_cachebet_k03_whole_no_rule_is_better) (k := 7) (x := "_law_script") rfl (by kernel_rfl) ⟨rfl, by decide, by decide⟩ ?_
    intro w mg f h Y G hmg0
    obtain ⟨K, KX, c⟩ := Y
    have hmg : mg ("law" : PySem.Str) = some (.ref f) := by
      have e : (HandSHeadRun.topDef (OpenLaw.row PySem.Challenge.rw_cachebet_k03_whole_no_rule_is_better).prog 47).name = ("law" : PySem.Str) := by kernel_rfl
      rw [← e]
      exact hmg0
    have cx : Dl.Fx K03.fa K03.fn K03.ex K mg := ⟨c.t.d, c.more, h, KX, G⟩
    obtain ⟨fd0, F0⟩ := cx.def_ 32 (d := K03.d_law)
    have e := hmg.symm.trans (cx.glo 37 (x := "law"))
    cases e
    have b := L2.FunD.bindsA (ps := ["_law_script"]) F0 fun _ _ _ _ _ _ us hl => match us, hl with | [_], _ => rfl
    refine ⟨K, fd0, KX, fun s v => b s [v] rfl, fun base hb hn => ?_⟩
    have cb : Dl.Fx K03.fa K03.fn K03.ex K mg := ⟨c.t.d, c.more, base, hb, hn⟩
    exact K03.all_ok (P := (PySem.Challenge.rw_cachebet_k03_whole_no_rule_is_better).prog) (w := w) (base := base) cb F0

