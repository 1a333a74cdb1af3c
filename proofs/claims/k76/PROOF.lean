import PyProof.Rows.All
import Wide.All
import OpenK.AllK
import Wide.FinOn
import HandS.ForMost
import HandS.ForExc
import HandS.HeadHook2
import HandS.Defaults
import HandS.HeadEnd
import HandS.Deep
import HandS.Small
import HandS.TupAny
import HandS.Style
import HandS.IsInst
import HandS.FStr
import HandS.Flow
import HandS.RaiseMore
import HandS.Iter
import HandS.Text
import HandS.Strs
import KE.GoesEnum
import PyProof.ReprRoads
import KE.KUnpackStar
import HandS.MakeKwOnly
import HandS.SetBool
import HandS.SetKeys
import HandS.SetFor
import KE.KStateDown
import Lean
import HandS.Base
import HandS.Call
import HandS.Ends
import HandS.More
import HandS.Words
import HandS.WordsExc
import HandS.Head0
import HandS.Head1
import HandS.Head2
import HandS.HeadHook1
import PySem.Challenge.RW_crossedwishes_k76_books_written_and_read
set_option Elab.async false
set_option maxRecDepth 100000
set_option maxHeartbeats 2000000
set_option linter.all false
/-! Values as plain data, a store of owned objects, and how both stand in the abstract heap. -/
namespace Cw
open PySem L2

/-- plain data; ref: an owned object of the store; fn: a function or class of the text; scr: a list that is only read -/
inductive D where
  | non | bl (b : Bool) | int (i : Int) | str (s : Str) | tup (ds : List D) | lst (ds : List D) | scr (ds : List D) | ref (n : Nat) | fn (x : Str) | ty (n : String)

/-- an owned object: it may change -/
inductive Ob where
  | lst (ds : List D)
  | dic (ks : List (Key × D))
  | ins (c : Str) (fs : List (Str × D))

/-- a world: the immutable part of the heap, where the owned objects stand, how many there are -/
structure Wd where
  H : Hp
  a : Nat → Addr
  n : Nat
  /-- objects that nobody knows but who put them there -/
  F : Hp

structure Wd.Le (w w' : Wd) : Prop where
  h : ∀ b o, w.H b = some o → w'.H b = some o
  n : w.n ≤ w'.n
  a : ∀ k, k < w.n → w'.a k = w.a k
  f : w'.F = w.F
theorem Wd.Le.rfl {w : Wd} : w.Le w := ⟨fun _ _ h => h, Nat.le_refl _, fun _ _ => Eq.refl _, Eq.refl _⟩
theorem Wd.Le.trans {w w1 w2 : Wd} (p : w.Le w1) (q : w1.Le w2) : w.Le w2 :=
  ⟨fun b o h => q.h b o (p.h b o h), Nat.le_trans p.n q.n, fun k hk => (q.a k (Nat.lt_of_lt_of_le hk p.n)).trans (p.a k hk), q.f.trans p.f⟩

mutual
def Dat (K : PySem.W.Frag) (w : Wd) : D → V → Prop
  | .non, v => v = .non
  | .bl b, v => v = .bl b
  | .int i, v => v = .int i
  | .str s, v => v = .str s
  | .tup ds, v => ∃ p xs, v = .ref p ∧ SqT K w.H p xs ∧ Dats K w ds xs
  | .lst ds, v => ∃ p xs, v = .ref p ∧ w.H p = some (.lst xs) ∧ Dats K w ds xs
  | .scr ds, v => ∃ p xs, v = .ref p ∧ SqL K w.H p xs ∧ Dats K w ds xs
  | .ref n, v => v = .ref (w.a n) ∧ n < w.n
  | .fn x, v => v = .ref (He.ga K x)
  | .ty n, v => v = .ty n
def Dats (K : PySem.W.Frag) (w : Wd) : List D → List V → Prop
  | [], xs => xs = []
  | d :: ds, xs => ∃ v vs, xs = v :: vs ∧ Dat K w d v ∧ Dats K w ds vs
end

theorem rd_le {w w' : Wd} (e : ∀ b o, w.H b = some o → w'.H b = some o) {p : Addr} {u : HO} (h : Rd w.H p u) : Rd w'.H p u := by
  rcases h with h | ⟨o, h⟩
  · exact .inl (e _ _ h)
  · exact .inr ⟨o, e _ _ h⟩
theorem sqT_le {K : PySem.W.Frag} {w w' : Wd} (e : ∀ b o, w.H b = some o → w'.H b = some o) {p : Addr} {xs : List V} (h : SqT K w.H p xs) : SqT K w'.H p xs := by
  rcases h with h | h
  · exact .inl (rd_le e h)
  · exact .inr h
theorem sqL_le {K : PySem.W.Frag} {w w' : Wd} (e : ∀ b o, w.H b = some o → w'.H b = some o) {p : Addr} {xs : List V} (h : SqL K w.H p xs) : SqL K w'.H p xs := by
  rcases h with h | h
  · exact .inl (rd_le e h)
  · exact .inr h

/-- a world that knows more; its frame may be another one -/
structure Wd.Kn (w w' : Wd) : Prop where
  h : ∀ b o, w.H b = some o → w'.H b = some o
  n : w.n ≤ w'.n
  a : ∀ k, k < w.n → w'.a k = w.a k
theorem Wd.Le.kn {w w' : Wd} (e : w.Le w') : w.Kn w' := ⟨e.h, e.n, e.a⟩
mutual
theorem Dat.kn {K : PySem.W.Frag} {w w' : Wd} (e : w.Kn w') : ∀ {d : D} {v : V}, Dat K w d v → Dat K w' d v
  | .non, _, h => h
  | .bl _, _, h => h
  | .int _, _, h => h
  | .str _, _, h => h
  | .tup _, _, ⟨p, xs, h1, h2, h3⟩ => ⟨p, xs, h1, sqT_le e.h h2, Dats.kn e h3⟩
  | .lst _, _, ⟨p, xs, h1, h2, h3⟩ => ⟨p, xs, h1, e.h _ _ h2, Dats.kn e h3⟩
  | .scr _, _, ⟨p, xs, h1, h2, h3⟩ => ⟨p, xs, h1, sqL_le e.h h2, Dats.kn e h3⟩
  | .ref n, _, ⟨h1, h2⟩ => ⟨by rw [h1, e.a n h2], Nat.lt_of_lt_of_le h2 e.n⟩
  | .fn _, _, h => h
  | .ty _, _, h => h
theorem Dats.kn {K : PySem.W.Frag} {w w' : Wd} (e : w.Kn w') : ∀ {ds : List D} {vs : List V}, Dats K w ds vs → Dats K w' ds vs
  | [], _, h => h
  | _ :: _, _, ⟨v, vs, h1, h2, h3⟩ => ⟨v, vs, h1, Dat.kn e h2, Dats.kn e h3⟩
end
theorem Dat.le {K : PySem.W.Frag} {w w' : Wd} (e : w.Le w') {d : D} {v : V} (h : Dat K w d v) : Dat K w' d v := h.kn e.kn
theorem Dats.le {K : PySem.W.Frag} {w w' : Wd} (e : w.Le w') {d : List D} {v : List V} (h : Dats K w d v) : Dats K w' d v := h.kn e.kn

section
variable {K : PySem.W.Frag} {w w' : Wd}
theorem Dats.nil : Dats K w [] [] := Eq.refl _
theorem Dats.cons {d : D} {ds : List D} {v : V} {vs : List V} (h : Dat K w d v) (t : Dats K w ds vs) : Dats K w (d :: ds) (v :: vs) := ⟨v, vs, Eq.refl _, h, t⟩
theorem Dats.len : ∀ {ds : List D} {vs : List V}, Dats K w ds vs → vs.length = ds.length
  | [], _, h => by
    have e : _ = [] := h
    rw [e]
    exact Eq.refl _
  | _ :: ds, _, ⟨v, vs, h1, _, h3⟩ => by rw [h1, List.length_cons, List.length_cons, Dats.len h3]
theorem Dats.get : ∀ {ds : List D} {vs : List V} {i : Nat} {d : D}, Dats K w ds vs → ds[i]? = some d → ∃ v, vs[i]? = some v ∧ Dat K w d v
  | [], _, i, d, _, e => by simp at e
  | d0 :: ds, _, 0, d, ⟨v, vs, h1, h2, _⟩, e => by
    have e' : d0 = d := by simpa using e
    subst e'
    subst h1
    exact ⟨v, by simp, h2⟩
  | _ :: ds, _, i + 1, d, ⟨v, vs, h1, _, h3⟩, e => by
    obtain ⟨v', h4, h5⟩ := Dats.get (i := i) (d := d) h3 (by simpa using e)
    subst h1
    exact ⟨v', by simpa using h4, h5⟩
theorem Dats.at_ : ∀ {ds : List D} {vs : List V} {i : Nat} {v : V}, Dats K w ds vs → vs[i]? = some v → ∃ d, ds[i]? = some d ∧ Dat K w d v
  | [], _, i, d, h, e => by
    have e' : _ = [] := h
    subst e'
    simp at e
  | d0 :: ds, _, 0, x, ⟨v, vs, h1, h2, _⟩, e => by
    subst h1
    have e' : v = x := by simpa using e
    subst e'
    exact ⟨d0, by simp, h2⟩
  | _ :: ds, _, i + 1, x, ⟨v, vs, h1, _, h3⟩, e => by
    subst h1
    obtain ⟨d, h4, h5⟩ := Dats.at_ (i := i) (v := x) h3 (by simpa using e)
    exact ⟨d, by simpa using h4, h5⟩
theorem Dats.append : ∀ {ds es : List D} {vs us : List V}, Dats K w ds vs → Dats K w es us → Dats K w (ds ++ es) (vs ++ us)
  | [], _, _, _, h, t => by
    have e : _ = [] := h
    subst e
    exact t
  | _ :: _, _, _, _, ⟨v, vs, h1, h2, h3⟩, t => by
    subst h1
    exact ⟨v, _, Eq.refl _, h2, Dats.append h3 t⟩
theorem Dats.set : ∀ {ds : List D} {vs : List V} {d : D} {v : V} (i : Nat), Dats K w ds vs → Dat K w d v → Dats K w (ds.set i d) (vs.set i v)
  | [], _, _, _, i, h, _ => by
    have e : _ = [] := h
    subst e
    exact Dats.nil
  | _ :: _, _, _, _, 0, ⟨v, vs, h1, h2, h3⟩, t => by
    subst h1
    exact ⟨_, _, Eq.refl _, t, h3⟩
  | _ :: _, _, _, _, i + 1, ⟨v, vs, h1, h2, h3⟩, t => by
    subst h1
    exact ⟨_, _, Eq.refl _, h2, Dats.set i h3 t⟩
theorem Dats.take : ∀ {ds : List D} {vs : List V} (n : Nat), Dats K w ds vs → Dats K w (ds.take n) (vs.take n)
  | _, _, 0, _ => by
    rw [List.take_zero, List.take_zero]
    exact Dats.nil
  | [], _, n + 1, h => by
    have e : _ = [] := h
    subst e
    exact Dats.nil
  | _ :: _, _, n + 1, ⟨v, vs, h1, h2, h3⟩ => by
    subst h1
    exact ⟨_, _, Eq.refl _, h2, Dats.take n h3⟩
theorem Dats.drop : ∀ {ds : List D} {vs : List V} (n : Nat), Dats K w ds vs → Dats K w (ds.drop n) (vs.drop n)
  | _, _, 0, h => by
    rw [List.drop_zero, List.drop_zero]
    exact h
  | [], _, n + 1, h => by
    have e : _ = [] := h
    subst e
    exact Dats.nil
  | _ :: _, _, n + 1, ⟨v, vs, h1, h2, h3⟩ => by
    subst h1
    exact Dats.drop n h3
theorem Dats.eraseIdx : ∀ {ds : List D} {vs : List V} (n : Nat), Dats K w ds vs → Dats K w (ds.eraseIdx n) (vs.eraseIdx n)
  | [], _, n, h => by
    have e : _ = [] := h
    subst e
    exact Dats.nil
  | _ :: _, _, 0, ⟨v, vs, h1, h2, h3⟩ => by
    subst h1
    exact h3
  | _ :: _, _, n + 1, ⟨v, vs, h1, h2, h3⟩ => by
    subst h1
    exact ⟨_, _, Eq.refl _, h2, Dats.eraseIdx n h3⟩
theorem Dats.reverse {ds : List D} {vs : List V} (h : Dats K w ds vs) : Dats K w ds.reverse vs.reverse := by
  induction ds generalizing vs with
  | nil =>
    have e : vs = [] := h
    subst e
    exact Dats.nil
  | cons d ds ih =>
    obtain ⟨v, us, h1, h2, h3⟩ := h
    subst h1
    rw [List.reverse_cons, List.reverse_cons]
    exact Dats.append (ih h3) (Dats.cons h2 Dats.nil)
end

/-- pairs of a key and a value -/
def DatA {κ : Type} (K : PySem.W.Frag) (w : Wd) : List (κ × D) → List (κ × V) → Prop
  | [], xs => xs = []
  | p :: ps, xs => ∃ v vs, xs = (p.1, v) :: vs ∧ Dat K w p.2 v ∧ DatA K w ps vs
theorem DatA.kn {κ : Type} {K : PySem.W.Frag} {w w' : Wd} (e : w.Kn w') : ∀ {ps : List (κ × D)} {xs : List (κ × V)}, DatA K w ps xs → DatA K w' ps xs
  | [], _, h => h
  | _ :: _, _, ⟨v, vs, h1, h2, h3⟩ => ⟨v, vs, h1, h2.kn e, DatA.kn e h3⟩
theorem DatA.le {κ : Type} {K : PySem.W.Frag} {w w' : Wd} (e : w.Le w') {ps : List (κ × D)} {xs : List (κ × V)} (h : DatA K w ps xs) : DatA K w' ps xs := h.kn e.kn
theorem DatA.len {κ : Type} {K : PySem.W.Frag} {w : Wd} : ∀ {ps : List (κ × D)} {xs : List (κ × V)}, DatA K w ps xs → xs.length = ps.length
  | [], _, h => by
    have e : _ = [] := h
    rw [e]
    exact Eq.refl _
  | _ :: ps, _, ⟨v, vs, h1, _, h3⟩ => by rw [h1, List.length_cons, List.length_cons, DatA.len h3]
theorem DatA.nil {κ : Type} {K : PySem.W.Frag} {w : Wd} : DatA (κ := κ) K w [] [] := Eq.refl _
/-- an owned object as it stands at p -/
def ObAt (K : PySem.W.Frag) (w : Wd) (H : Hp) (p : Addr) : Ob → Prop
  | .lst ds => ∃ xs, H p = some (.lst xs) ∧ Dats K w ds xs
  | .dic ks => ∃ xs, H p = some (.dK xs) ∧ DatA K w ks xs
  | .ins c fs => ∃ dx xs, H p = some (.ins (He.ga K c) dx xs) ∧ DatA K w fs xs
theorem ObAt.kn {K : PySem.W.Frag} {w w' : Wd} (e : w.Kn w') {H H' : Hp} {p : Addr} (k : H' p = H p) : ∀ {o : Ob}, ObAt K w H p o → ObAt K w' H' p o
  | .lst _, ⟨xs, h1, h2⟩ => ⟨xs, k.trans h1, h2.kn e⟩
  | .dic _, ⟨xs, h1, h2⟩ => ⟨xs, k.trans h1, h2.kn e⟩
  | .ins _ _, ⟨dx, xs, h1, h2⟩ => ⟨dx, xs, k.trans h1, h2.kn e⟩
theorem ObAt.le {K : PySem.W.Frag} {w w' : Wd} (e : w.Le w') {H H' : Hp} {p : Addr} (k : H' p = H p) {o : Ob} (h : ObAt K w H p o) : ObAt K w' H' p o := h.kn e.kn k
theorem ObAt.some {K : PySem.W.Frag} {w : Wd} {H : Hp} {p : Addr} : ∀ {o : Ob}, ObAt K w H p o → ∃ u, H p = some u
  | .lst _, ⟨_, h1, _⟩ => ⟨_, h1⟩
  | .dic _, ⟨_, h1, _⟩ => ⟨_, h1⟩
  | .ins _ _, ⟨_, _, h1, _⟩ => ⟨_, h1⟩

abbrev Sto := List Ob
/-- the store as it stands in the heap -/
structure Rep (K : PySem.W.Frag) (S : Sto) (w : Wd) (H : Hp) : Prop where
  sub : ∀ b o, w.H b = some o → H b = some o
  len : w.n = S.length
  obs : ∀ k o, S[k]? = some o → w.H (w.a k) = none ∧ ObAt K w H (w.a k) o
  inj : ∀ j k, j < w.n → k < w.n → w.a j = w.a k → j = k
  frm : ∀ b o, w.F b = some o → H b = some o ∧ w.H b = none ∧ ∀ k, k < w.n → w.a k ≠ b

section
variable {K : PySem.W.Frag} {S : Sto} {w : Wd} {H : Hp} {p : Addr}
theorem Rep.ex (r : Rep K S w H) : ∀ b o, w.H b = some o → H b = some o := r.sub
theorem Rep.sqT (r : Rep K S w H) {xs : List V} (h : SqT K w.H p xs) : SqT K H p xs := by
  rcases h with (h | ⟨o, h⟩) | h
  · exact .inl (.inl (r.sub _ _ h))
  · exact .inl (.inr ⟨o, r.sub _ _ h⟩)
  · exact .inr h
theorem Rep.sqL (r : Rep K S w H) {xs : List V} (h : SqL K w.H p xs) : SqL K H p xs := by
  rcases h with (h | ⟨o, h⟩) | h
  · exact .inl (.inl (r.sub _ _ h))
  · exact .inl (.inr ⟨o, r.sub _ _ h⟩)
  · exact .inr h
theorem Rep.free (r : Rep K S w H) (hp : H p = none) : w.H p = none := by
  cases e : w.H p with
  | none => rfl
  | some o =>
    rw [r.sub _ _ e] at hp
    cases hp
theorem Rep.ne (r : Rep K S w H) (hp : H p = none) {k : Nat} (hk : k < w.n) : w.a k ≠ p := by
  intro e
  have hk' : k < S.length := by rw [← r.len]; exact hk
  obtain ⟨_, h2⟩ := r.obs k S[k] (by simp [hk'])
  obtain ⟨u, h3⟩ := h2.some
  rw [e, hp] at h3
  cases h3
/-- the world with a new immutable object -/
def Wd.new (w : Wd) (p : Addr) (o : HO) : Wd := { w with H := upd w.H p o }
theorem Wd.new_le (w : Wd) (p : Addr) (o : HO) (hp : w.H p = none) : w.Le (w.new p o) :=
  ⟨fun b u e => by
    show upd w.H p o b = some u
    rw [upd_ne (ne_of_none e hp)]
    exact e, Nat.le_refl _, fun _ _ => rfl, rfl⟩
theorem Rep.new (r : Rep K S w H) (hp : H p = none) (o : HO) : Rep K S (w.new p o) (upd H p o) := by
  have hw := r.free hp
  refine ⟨fun b u e => ?_, r.len, fun k ob e => ?_, r.inj, fun b u e => ?_⟩
  · by_cases hb : b = p
    · subst hb
      have e' : upd w.H b o b = some u := e
      rw [upd_same] at e'
      rw [upd_same]
      exact e'
    · have e' : upd w.H p o b = some u := e
      rw [upd_ne hb] at e'
      rw [upd_ne hb]
      exact r.sub _ _ e'
  · obtain ⟨h1, h2⟩ := r.obs k ob e
    have hk : k < w.n := by
      rw [r.len]
      exact (List.getElem?_eq_some_iff.mp e).1
    have hne := r.ne hp hk
    refine ⟨?_, h2.le (w.new_le p o hw) (upd_ne hne)⟩
    show upd w.H p o (w.a k) = none
    rw [upd_ne hne]
    exact h1
  · obtain ⟨h1, h2, h3⟩ := r.frm b u e
    have hb : b ≠ p := ne_of_none h1 hp
    refine ⟨by rw [upd_ne hb]; exact h1, ?_, h3⟩
    show upd w.H p o b = none
    rw [upd_ne hb]
    exact h2
/-- the world with a new owned object -/
def Wd.own (w : Wd) (p : Addr) : Wd := { w with a := fun k => if k = w.n then p else w.a k, n := w.n + 1 }
theorem Wd.own_le (w : Wd) (p : Addr) : w.Le (w.own p) :=
  ⟨fun _ _ e => e, Nat.le_succ _, fun k hk => by
    show (if k = w.n then p else w.a k) = w.a k
    rw [if_neg (Nat.ne_of_lt hk)], rfl⟩
theorem Wd.own_at (w : Wd) (p : Addr) : (w.own p).a w.n = p := by
  show (if w.n = w.n then p else w.a w.n) = p
  rw [if_pos rfl]
/-- an object that stands new at p is owned from now on -/
theorem Rep.own (r : Rep K S w H) (hp : H p = none) {H' : Hp} (k : ∀ b, b ≠ p → ∀ o, H b = some o → H' b = some o) {o : Ob} (h : ObAt K w H' p o) :
    Rep K (S ++ [o]) (w.own p) H' := by
  have hw := r.free hp
  have low : ∀ j, j < w.n → (w.own p).a j = w.a j := (w.own_le p).a
  refine ⟨fun b u e => k b (ne_of_none (r.sub _ _ e) hp) u (r.sub _ _ e), ?_, fun j ob e => ?_, fun i j hi hj e => ?_, fun b u e => ?_⟩
  · show w.n + 1 = _
    rw [List.length_append, r.len]
    rfl
  · by_cases hj : j < S.length
    · rw [List.getElem?_append_left hj] at e
      obtain ⟨h1, h2⟩ := r.obs j ob e
      have hj' : j < w.n := by rw [r.len]; exact hj
      rw [low j hj']
      obtain ⟨u, hu⟩ := h2.some
      exact ⟨h1, h2.le (w.own_le p) ((k _ (r.ne hp hj') u hu).trans hu.symm)⟩
    · have hj2 : j = S.length := by
        have := (List.getElem?_eq_some_iff.mp e).1
        rw [List.length_append, List.length_singleton] at this
        omega
      subst hj2
      rw [List.getElem?_append_right (Nat.le_refl _), Nat.sub_self] at e
      have e' : o = ob := by simpa using e
      subst e'
      rw [← r.len, w.own_at p]
      exact ⟨hw, h.le (w.own_le p) rfl⟩
  · have hi' : i < w.n + 1 := hi
    have hj' : j < w.n + 1 := hj
    by_cases h1 : i = w.n
    · by_cases h2 : j = w.n
      · rw [h1, h2]
      · have hj3 : j < w.n := by omega
        rw [h1, w.own_at p, low j hj3] at e
        exact absurd e.symm (r.ne hp hj3)
    · have hi3 : i < w.n := by omega
      by_cases h2 : j = w.n
      · rw [h2, w.own_at p, low i hi3] at e
        exact absurd e (r.ne hp hi3)
      · have hj3 : j < w.n := by omega
        rw [low i hi3, low j hj3] at e
        exact r.inj i j hi3 hj3 e
  · obtain ⟨h1, h2, h3⟩ := r.frm b u e
    have hb : b ≠ p := ne_of_none h1 hp
    refine ⟨k b hb u h1, h2, fun j hj => ?_⟩
    have hj' : j < w.n + 1 := hj
    by_cases h4 : j = w.n
    · rw [h4, w.own_at p]
      exact hb.symm
    · rw [low j (by omega)]
      exact h3 j (by omega)
/-- an owned object is written -/
theorem Rep.write (r : Rep K S w H) {n : Nat} (hn : n < w.n) {H' : Hp} (k : ∀ b, b ≠ w.a n → H' b = H b) {o : Ob} (h : ObAt K w H' (w.a n) o) : Rep K (S.set n o) w H' := by
  have hn' : n < S.length := by rw [← r.len]; exact hn
  obtain ⟨h0, _⟩ := r.obs n S[n] (by simp [hn'])
  refine ⟨fun b u e => ?_, by rw [List.length_set]; exact r.len, fun j ob e => ?_, r.inj, fun b u e => ?_⟩
  · rw [k b (ne_of_none e h0)]
    exact r.sub _ _ e
  · have hj : j < w.n := by
      have := (List.getElem?_eq_some_iff.mp e).1
      rw [List.length_set, ← r.len] at this
      exact this
    by_cases hj2 : j = n
    · subst hj2
      rw [List.getElem?_set_self hn'] at e
      have e' : o = ob := by simpa using e
      subst e'
      exact ⟨h0, h⟩
    · rw [List.getElem?_set_ne (Ne.symm hj2)] at e
      obtain ⟨h1, h2⟩ := r.obs j ob e
      refine ⟨h1, h2.le Wd.Le.rfl (k _ fun q => hj2 (r.inj _ _ hj hn q))⟩
  · obtain ⟨h1, h2, h3⟩ := r.frm b u e
    exact ⟨(k b (h3 n hn).symm).trans h1, h2, h3⟩
/-- an object put into the frame: it stands new at p -/
def Wd.frame (w : Wd) (p : Addr) (o : HO) : Wd := { w with F := upd w.F p o }
theorem Rep.frame (r : Rep K S w H) (hp : H p = none) (o : HO) : Rep K S (w.frame p o) (upd H p o) := by
  refine ⟨fun b u e => ?_, r.len, fun k ob e => ?_, r.inj, fun b u e => ?_⟩
  · have e' : w.H b = some u := e
    rw [upd_ne (ne_of_none (r.sub _ _ e') hp)]
    exact r.sub _ _ e'
  · obtain ⟨h1, h2⟩ := r.obs k ob e
    have hk : k < w.n := by
      rw [r.len]
      exact (List.getElem?_eq_some_iff.mp e).1
    exact ⟨h1, ObAt.kn (w := w) (w' := w.frame p o) ⟨fun _ _ e => e, Nat.le_refl _, fun _ _ => rfl⟩ (upd_ne (r.ne hp hk)) h2⟩
  · by_cases hb : b = p
    · subst hb
      have e' : upd w.F b o b = some u := e
      rw [upd_same] at e'
      exact ⟨by rw [upd_same]; exact e', r.free hp, fun k hk => r.ne hp hk⟩
    · have e' : upd w.F p o b = some u := e
      rw [upd_ne hb] at e'
      obtain ⟨h1, h2, h3⟩ := r.frm b u e'
      exact ⟨by rw [upd_ne hb]; exact h1, h2, h3⟩
/-- the framed object is written -/
theorem Rep.framed (r : Rep K S w H) {o o' : HO} (hp : w.F p = some o) : Rep K S (w.frame p o') (upd H p o') := by
  obtain ⟨h1, h2, h3⟩ := r.frm p o hp
  refine ⟨fun b u e => ?_, r.len, fun k ob e => ?_, r.inj, fun b u e => ?_⟩
  · have e' : w.H b = some u := e
    rw [upd_ne (ne_of_none e' h2)]
    exact r.sub _ _ e'
  · obtain ⟨h4, h5⟩ := r.obs k ob e
    have hk : k < w.n := by
      rw [r.len]
      exact (List.getElem?_eq_some_iff.mp e).1
    exact ⟨h4, ObAt.kn (w := w) (w' := w.frame p o') ⟨fun _ _ e => e, Nat.le_refl _, fun _ _ => rfl⟩ (upd_ne (h3 k hk)) h5⟩
  · by_cases hb : b = p
    · subst hb
      have e' : upd w.F b o' b = some u := e
      rw [upd_same] at e'
      exact ⟨by rw [upd_same]; exact e', h2, h3⟩
    · have e' : upd w.F p o' b = some u := e
      rw [upd_ne hb] at e'
      obtain ⟨h4, h5, h6⟩ := r.frm b u e'
      exact ⟨by rw [upd_ne hb]; exact h4, h5, h6⟩
/-- the framed object becomes immutable; the old frame stands again -/
def Wd.thaw (w : Wd) (p : Addr) (o : HO) (F : Hp) : Wd := { w with H := upd w.H p o, F := F }
theorem Rep.thaw (r : Rep K S w H) {o : HO} (hp : w.F p = some o) {F : Hp} (hF : ∀ b, b ≠ p → w.F b = F b) (h0 : F p = none) : Rep K S (w.thaw p o F) H := by
  obtain ⟨h1, h2, h3⟩ := r.frm p o hp
  refine ⟨fun b u e => ?_, r.len, fun k ob e => ?_, r.inj, fun b u e => ?_⟩
  · by_cases hb : b = p
    · subst hb
      have e' : upd w.H b o b = some u := e
      rw [upd_same] at e'
      rw [← e']
      exact h1
    · have e' : upd w.H p o b = some u := e
      rw [upd_ne hb] at e'
      exact r.sub _ _ e'
  · obtain ⟨h4, h5⟩ := r.obs k ob e
    have hk : k < w.n := by
      rw [r.len]
      exact (List.getElem?_eq_some_iff.mp e).1
    refine ⟨?_, ObAt.kn (w := w) (w' := w.thaw p o F) ⟨fun b u e => ?_, Nat.le_refl _, fun _ _ => rfl⟩ rfl h5⟩
    · show upd w.H p o (w.a k) = none
      rw [upd_ne (h3 k hk)]
      exact h4
    · show upd w.H p o b = some u
      rw [upd_ne (ne_of_none e h2)]
      exact e
  · have e' : F b = some u := e
    have hb : b ≠ p := fun q => by
      rw [q, h0] at e'
      cases e'
    obtain ⟨h4, h5, h6⟩ := r.frm b u ((hF b hb).trans e')
    refine ⟨h4, ?_, h6⟩
    show upd w.H p o b = none
    rw [upd_ne hb]
    exact h5
/-- ids are forgotten from n on -/
def Wd.cut (w : Wd) (n : Nat) : Wd := { w with n := n }
end
end Cw

set_option maxRecDepth 100000
set_option maxHeartbeats 2000000
set_option linter.all false
/-! What code does, told by functions upon plain data: the judgements, and the rules for what is common. -/
namespace Cw
open PySem L2

/-! ### outcomes -/
/-- an exception in flight: its class, the field that its own __init__ stored -/
structure Exn where
  cls : Str
  fs : Option (Str × D)
inductive Out (α : Type) where
  | ok (a : α) (S : Sto)
  | exc (x : Exn) (S : Sto)
abbrev Env := List (Option D)
/-- what an expression, a test, a list of expressions comes to -/
abbrev DE := Env → Sto → Option (Out D)
abbrev DT := Env → Sto → Option (Out Bool)
abbrev DA := Env → Sto → Option (Out (List D))
def bnd {α β : Type} (r : Option (Out α)) (f : α → Sto → Option (Out β)) : Option (Out β) :=
  match r with
  | none => none
  | some (.exc x S) => some (.exc x S)
  | some (.ok a S) => f a S
@[simp] theorem bnd_ok {α β : Type} (a : α) (S : Sto) (f : α → Sto → Option (Out β)) : bnd (some (.ok a S)) f = f a S := rfl
@[simp] theorem bnd_exc {α β : Type} (x : Exn) (S : Sto) (f : α → Sto → Option (Out β)) : bnd (some (.exc x S)) f = some (.exc x S) := rfl
@[simp] theorem bnd_none {α β : Type} (f : α → Sto → Option (Out β)) : bnd none f = none := rfl
/-- a value that is there, the store as it is -/
def up {α : Type} (o : Option α) (S : Sto) : Option (Out α) := match o with
  | none => none
  | some a => some (.ok a S)
@[simp] theorem up_some {α : Type} (a : α) (S : Sto) : up (some a) S = some (.ok a S) := rfl
@[simp] theorem up_none {α : Type} (S : Sto) : up (none : Option α) S = none := rfl

def ExcAt (K : PySem.W.Frag) (w : Wd) (H : Hp) (x : Exn) (c : Value) (od : Option Addr) : Prop :=
  c = .ref (He.ga K x.cls) ∧ match x.fs with
  | none => od = none
  | some (f, d) => ∃ p v, od = some p ∧ H p = some (.xd [(f, v)]) ∧ Dat K w d v

def EnvOk (K : PySem.W.Frag) (w : Wd) (σ : L2.St) (δ : Env) : Prop := σ.length = δ.length ∧ ∀ (i : Nat) (d : D), δ[i]? = some (some d) → ∃ v, σ[i]? = some (some v) ∧ Dat K w d v
theorem EnvOk.kn {K : PySem.W.Frag} {w w' : Wd} {σ : L2.St} {δ : Env} (e : w.Kn w') (h : EnvOk K w σ δ) : EnvOk K w' σ δ := ⟨h.1, fun i d q => by
  obtain ⟨v, h1, h2⟩ := h.2 i d q
  exact ⟨v, h1, h2.kn e⟩⟩
theorem EnvOk.le {K : PySem.W.Frag} {w w' : Wd} {σ : L2.St} {δ : Env} (e : w.Le w') (h : EnvOk K w σ δ) : EnvOk K w' σ δ := h.kn e.kn
theorem EnvOk.set {K : PySem.W.Frag} {w : Wd} {σ : L2.St} {δ : Env} (h : EnvOk K w σ δ) (i : Nat) {d : D} {v : V} (hv : Dat K w d v) : EnvOk K w (σ.set i (some v)) (δ.set i (some d)) := by
  refine ⟨by rw [List.length_set, List.length_set]; exact h.1, fun j e q => ?_⟩
  by_cases hj : j = i
  · subst hj
    by_cases hl : j < δ.length
    · rw [List.getElem?_set_self hl] at q
      have e' : d = e := by simpa using q
      subst e'
      exact ⟨v, by rw [List.getElem?_set_self (by rw [h.1]; exact hl)], hv⟩
    · rw [List.getElem?_eq_none (by rw [List.length_set]; omega)] at q
      cases q
  · rw [List.getElem?_set_ne (Ne.symm hj)] at q
    obtain ⟨u, h1, h2⟩ := h.2 j e q
    exact ⟨u, by rw [List.getElem?_set_ne (Ne.symm hj)]; exact h1, h2⟩

/-- what is shown of an outcome -/
def Po {α : Type} (K : PySem.W.Frag) (W : WX) (σ : L2.St) (w : Wd) (r : Option (Out α)) (R : α → Sto → Wd → Hp → Prop) : Prop := match r with
  | none => False
  | some (.ok a S') => ∀ w' H', w.Le w' → Rep K S' w' H' → R a S' w' H'
  | some (.exc x S') => ∀ c od w' H', w.Le w' → Rep K S' w' H' → ExcAt K w' H' x c od → W c od σ H'
theorem Po.mono {α : Type} {K : PySem.W.Frag} {W : WX} {σ : L2.St} {w : Wd} {r : Option (Out α)} {R R' : α → Sto → Wd → Hp → Prop} (h : Po K W σ w r R) (k : ∀ a S' w' H', w.Le w' → Rep K S' w' H' → R a S' w' H' → R' a S' w' H') : Po K W σ w r R' := by
  match r, h with
  | some (.ok a S'), h => exact fun w' H' e r => k a S' w' H' e r (h w' H' e r)
  | some (.exc x S'), h => exact h
theorem Po.bnd {α β : Type} {K : PySem.W.Frag} {W : WX} {σ : L2.St} {w : Wd} {r : Option (Out α)} {f : α → Sto → Option (Out β)} {R : β → Sto → Wd → Hp → Prop} (h : Po K W σ w (bnd r f) R) :
    Po K W σ w r (fun a S' w' _ => Po K W σ w' (f a S') R) := by
  match r, h with
  | some (.ok a S'), h =>
    intro w' H' e _
    have h' : Po K W σ w (f a S') R := h
    match f a S', h' with
    | some (.ok b S''), h' => exact fun w2 H2 e2 r2 => h' w2 H2 (e.trans e2) r2
    | some (.exc x S''), h' => exact fun c od w2 H2 e2 r2 => h' c od w2 H2 (e.trans e2) r2
  | some (.exc x S'), h => exact h
theorem Po.up {α : Type} {K : PySem.W.Frag} {W : WX} {σ : L2.St} {w : Wd} {o : Option α} {S : Sto} {R : α → Sto → Wd → Hp → Prop} {H : Hp} (h : Po K W σ w (up o S) R) (r : Rep K S w H) : ∃ a, o = some a ∧ R a S w H := by
  cases o with
  | none => exact h.elim
  | some a => exact ⟨a, rfl, h w H Wd.Le.rfl r⟩

/-- a value where it is wanted -/
def Got (K : PySem.W.Frag) (Q : VK) : D → Sto → Wd → Hp → Prop := fun d _ w' H' => ∀ v, Dat K w' d v → Q v H'
def Gots (K : PySem.W.Frag) (Q : List V → Hp → Prop) : List D → Sto → Wd → Hp → Prop := fun ds _ w' H' => ∀ vs, Dats K w' ds vs → Q vs H'
def TEv (K : PySem.W.Frag) (W : WX) (A : DE) : TE := fun σ H Q => ∃ δ S w, Rep K S w H ∧ EnvOk K w σ δ ∧ Po K W σ w (A δ S) (Got K Q)
def TTv (K : PySem.W.Frag) (W : WX) (A : DT) : TT := fun σ H Q => ∃ δ S w, Rep K S w H ∧ EnvOk K w σ δ ∧ Po K W σ w (A δ S) (fun b _ _ H' => Q b H')
def TAv (K : PySem.W.Frag) (W : WX) (A : DA) : TA := fun σ H Q => ∃ δ S w, Rep K S w H ∧ EnvOk K w σ δ ∧ Po K W σ w (A δ S) (Gots K Q)

/-- the judgements -/
structure Ev (X : Cx) (W : WX) (e : Expr) (A : DE) : Prop where
  pe : PE X e (TEv X.K W A)
structure Tv (X : Cx) (W : WX) (e : Expr) (A : DT) : Prop where
  pt : PT X e (TTv X.K W A)
structure Av (X : Cx) (W : WX) (es : List Expr) (A : DA) : Prop where
  pa : PA X es (TAv X.K W A)
theorem pe_imp {X : Cx} {e : Expr} {t t' : TE} (h : PE X e t) (k : ∀ σ H Q, t' σ H Q → t σ H Q) : PE X e t' := ⟨fun pins s σ H Q I q => h.run pins s σ H Q I (k σ H Q q)⟩
theorem pt_imp {X : Cx} {e : Expr} {t t' : TT} (h : PT X e t) (k : ∀ σ H Q, t' σ H Q → t σ H Q) : PT X e t' := ⟨fun pins s σ H Q I q => h.run pins s σ H Q I (k σ H Q q)⟩
theorem pa_imp {X : Cx} {e : List Expr} {t t' : TA} (h : PA X e t) (k : ∀ σ H Q, t' σ H Q → t σ H Q) : PA X e t' := ⟨fun pos pins s σ H Q I q => h.run pos pins s σ H Q I (k σ H Q q)⟩
theorem ps_imp {X : Cx} {e : Stmt} {t t' : TS} (h : PS X e t) (k : ∀ D σ H, t' D σ H → t D σ H) : PS X e t' := ⟨fun pins s σ H Q I q => h.run pins s σ H Q I (k Q σ H q)⟩
theorem pss_imp {X : Cx} {e : List Stmt} {t t' : TS} (h : PSs X e t) (k : ∀ D σ H, t' D σ H → t D σ H) : PSs X e t' := ⟨fun pins s σ H Q I q => h.run pins s σ H Q I (k Q σ H q)⟩

section
variable {X : Cx} {W : WX} {pos : Pos}

/-! ### names, constants -/
def dVar (i : Nat) : DE := fun δ S => up (match δ[i]? with | some (some d) => some d | _ => none) S
theorem ev_var {i : Nat} {x : Str} (hN : X.N[i]? = some x := by rfl) (hv : Vis X.env.scope x := by first | exact Or.inl rfl | exact Or.inr (Or.inl rfl) | exact Or.inr (Or.inr rfl)) (hd : (x == ("__debug__" : Str)) = false := by decide)
    (hcd : (x == ("__classdict__" : Str)) = false := by decide) : Ev X W (.Name x pos) (dVar i) := ⟨by
  refine pe_imp (pe_var hN hv hd hcd) fun σ H Q ⟨δ, S, w, r, he, p⟩ => ?_
  obtain ⟨d, hd, g⟩ := Po.up p r
  cases e : δ[i]? with
  | none => rw [e] at hd; cases hd
  | some o =>
    cases o with
    | none => rw [e] at hd; cases hd
    | some d' =>
      rw [e] at hd
      have e' : d' = d := by simpa using hd
      subst e'
      obtain ⟨v, h1, h2⟩ := he.2 i d' e
      exact ⟨v, h1, g v h2⟩⟩
def dC (d : D) : DE := fun _ S => some (.ok d S)
theorem tev_c {K : PySem.W.Frag} {d : D} {v : V} (hv : ∀ w, Dat K w d v) : ∀ σ H Q, TEv K W (dC d) σ H Q → tC v σ H Q := fun σ H Q ⟨δ, S, w, r, _, p⟩ => p w H Wd.Le.rfl r v (hv w)
theorem ev_int {i : Int} {j} : Ev X W (.Constant (.int i) j pos) (dC (.int i)) := ⟨pe_imp pe_int (tev_c fun _ => rfl)⟩
theorem ev_bl {b : Bool} {j} : Ev X W (.Constant (.bool b) j pos) (dC (.bl b)) := ⟨pe_imp pe_bl (tev_c fun _ => rfl)⟩
theorem ev_non {j} : Ev X W (.Constant .none j pos) (dC .non) := ⟨pe_imp pe_non (tev_c fun _ => rfl)⟩
theorem ev_str {x : Str} {j} : Ev X W (.Constant (.str x) j pos) (dC (.str x)) := ⟨pe_imp pe_str (tev_c fun _ => rfl)⟩
/-- a module's constant: an int, a text -/
theorem ev_gint {x : Str} {i : Int} (hg : Gl X x) (hm : ∃ t, X.mg x = some (.int i t)) (hd : (x == ("__debug__" : Str)) = false := by decide) : Ev X W (.Name x pos) (dC (.int i)) := by
  obtain ⟨t, h⟩ := hm
  exact ⟨pe_imp (pe_glob (v := .int i) hg h ⟨t, rfl⟩ hd) (tev_c fun _ => rfl)⟩
theorem ev_gstr {x : Str} {i : Str} (hg : Gl X x) (hm : ∃ t, X.mg x = some (.str i t)) (hd : (x == ("__debug__" : Str)) = false := by decide) : Ev X W (.Name x pos) (dC (.str i)) := by
  obtain ⟨t, h⟩ := hm
  exact ⟨pe_imp (pe_glob (v := .str i) hg h ⟨t, rfl⟩ hd) (tev_c fun _ => rfl)⟩
/-- a module's tuple of plain values -/
theorem ev_gval {x : Str} {d : D} {p : Addr} (hg : Gl X x) (hm : X.mg x = some (.ref p)) (hv : ∀ w, Dat X.K w d (.ref p)) (hd : (x == ("__debug__" : Str)) = false := by decide) : Ev X W (.Name x pos) (dC d) :=
  ⟨pe_imp (pe_glob (v := .ref p) hg hm rfl hd) (tev_c hv)⟩

/-! ### two operands -/
/-- an operation on values: g tells what comes of plain data; it may look at the store, and change it -/
def OpD (K : PySem.W.Frag) (rr : V → V → Hp → VK → Prop) (g : D → D → Sto → Option (D × Sto)) : Prop :=
  ∀ (x y d : D) (S S' : Sto) (w : Wd) (H : Hp) (u v : V) (Q : VK), g x y S = some (d, S') → Rep K S w H → Dat K w x u → Dat K w y v →
    (∀ w' H' z, w.Le w' → Rep K S' w' H' → Dat K w' d z → Q z H') → rr u v H Q
def upS {α : Type} (o : Option (α × Sto)) : Option (Out α) := match o with
  | none => none
  | some (a, S) => some (.ok a S)
@[simp] theorem upS_some {α : Type} (a : α) (S : Sto) : upS (some (a, S)) = some (.ok a S) := rfl
def dOp (g : D → D → Sto → Option (D × Sto)) (A B : DE) : DE := fun δ S => bnd (A δ S) fun x S1 => bnd (B δ S1) fun y S2 => upS (g x y S2)
theorem tev_op {K : PySem.W.Frag} {rr : V → V → Hp → VK → Prop} {g : D → D → Sto → Option (D × Sto)} {A B : DE} (hg : OpD K rr g) : ∀ σ H Q, TEv K W (dOp g A B) σ H Q → tOp rr (TEv K W A) (TEv K W B) σ H Q := fun σ H Q ⟨δ, S, w, r, he, p⟩ => by
  refine ⟨δ, S, w, r, he, p.bnd.mono fun x S1 w1 H1 e1 r1 p1 u hu => ?_⟩
  refine ⟨δ, S1, w1, r1, he.le e1, p1.bnd.mono fun y S2 w2 H2 e2 r2 p2 v hv => ?_⟩
  cases eg : g x y S2 with
  | none =>
    rw [eg] at p2
    exact p2.elim
  | some q =>
    obtain ⟨d, S3⟩ := q
    rw [eg] at p2
    exact hg x y d S2 S3 w2 H2 u v Q eg r2 (hu.le e2) hv fun w' H' z e3 r3 hz => p2 w' H' e3 r3 z hz
theorem ev_op {a b : Expr} {op : Operator} {rr : R2} {g : D → D → Sto → Option (D × Sto)} {A B : DE} (ho : OpR X (binaryOp op) rr) (hg : OpD X.K rr g) (ha : Ev X W a A) (hb : Ev X W b B) : Ev X W (.BinOp a op b pos) (dOp g A B) :=
  ⟨pe_imp (pe_op ho ha.pe hb.pe) (tev_op hg)⟩
theorem ev_cmp {a b : Expr} {op : CmpOp} {rr : R2} {g : D → D → Sto → Option (D × Sto)} {A B : DE} (ho : OpR X (compareOp op) rr) (hg : OpD X.K rr g) (ha : Ev X W a A) (hb : Ev X W b B) (hm : behindInMarks op b = false) : Ev X W (.Compare a [op] [b] pos) (dOp g A B) :=
  ⟨pe_imp (pe_cmpR ho ha.pe hb.pe hm) (tev_op hg)⟩
/-- a value that is a truth, as a test -/
def asT (A : DE) : DT := fun δ S => bnd (A δ S) fun x S1 => up (match x with | .bl b => some b | _ => none) S1
theorem ttv_of {K : PySem.W.Frag} {A : DE} {t : TE} (k : ∀ σ H Q, TEv K W A σ H Q → t σ H Q) : ∀ σ H Q, TTv K W (asT A) σ H Q → tTest t σ H Q := fun σ H Q ⟨δ, S, w, r, he, p⟩ => by
  refine k σ H _ ⟨δ, S, w, r, he, p.bnd.mono fun x S1 w1 H1 e1 r1 p1 u hu => ?_⟩
  obtain ⟨b, hb, q⟩ := p1.up r1
  cases x with
  | bl c =>
    have e : c = b := by simpa using hb
    subst e
    exact ⟨c, hu, q⟩
  | _ => cases hb
theorem tv_cmp {a b : Expr} {op : CmpOp} {rr : R2} {g : D → D → Sto → Option (D × Sto)} {A B : DE} (ho : OpR X (compareOp op) rr) (hg : OpD X.K rr g) (ha : Ev X W a A) (hb : Ev X W b B) (hm : behindInMarks op b = false) : Tv X W (.Compare a [op] [b] pos) (asT (dOp g A B)) :=
  ⟨pt_imp (pt_cmpR ho ha.pe hb.pe hm) (ttv_of (tev_op hg))⟩
theorem tv_val {e : Expr} {A : DE} (h : Ev X W e A) (he : ∀ whole, isTrue e X.env whole = (do let v ← whole; standAt e.pos; holding [v] (truthy v)) := by intro _; rfl) : Tv X W e (asT A) :=
  ⟨pt_imp (pt_val h.pe he) (ttv_of fun _ _ _ h => h)⟩

/-! ### and, or, not, if else -/
def tAndD (A B : DT) : DT := fun δ S => bnd (A δ S) fun x S1 => if x = true then B δ S1 else some (.ok false S1)
def tOrD (A B : DT) : DT := fun δ S => bnd (A δ S) fun x S1 => if x = true then some (.ok true S1) else B δ S1
def tNotD (A : DT) : DT := fun δ S => bnd (A δ S) fun x S1 => some (.ok (!x) S1)
structure Wv (X : Cx) (W : WX) (e : Expr) (A : DT) : Prop where
  pw : PW X e (TTv X.K W A)
theorem pw_imp {X : Cx} {e : Expr} {t t' : TT} (h : PW X e t) (k : ∀ σ H Q, t' σ H Q → t σ H Q) : PW X e t' := ⟨fun wh pins s σ H Q I q => h.run wh pins s σ H Q I (k σ H Q q)⟩
theorem Wv.tv {e : Expr} {A : DT} (h : Wv X W e A) : Tv X W e A := ⟨h.pw.pt⟩
theorem wv_and1 {a : Expr} {A : DT} (h : Tv X W a A) : Wv X W (.BoolOp .And [a] pos) A := ⟨pw_and1 h.pt⟩
theorem wv_or1 {a : Expr} {A : DT} (h : Tv X W a A) : Wv X W (.BoolOp .Or [a] pos) A := ⟨pw_or1 h.pt⟩
theorem wv_and {a b : Expr} {rest : List Expr} {A B : DT} (h : Tv X W a A) (k : Wv X W (.BoolOp .And (b :: rest) pos) B) : Wv X W (.BoolOp .And (a :: b :: rest) pos) (tAndD A B) :=
  ⟨pw_imp (pw_and h.pt k.pw) fun σ H Q ⟨δ, S, w, r, he, p⟩ => ⟨δ, S, w, r, he, p.bnd.mono fun x S1 w1 H1 e1 r1 p1 => by
    cases x with
    | true => exact iteT ⟨δ, S1, w1, r1, he.le e1, p1⟩
    | false => exact iteF (p1 w1 H1 Wd.Le.rfl r1)⟩⟩
theorem wv_or {a b : Expr} {rest : List Expr} {A B : DT} (h : Tv X W a A) (k : Wv X W (.BoolOp .Or (b :: rest) pos) B) : Wv X W (.BoolOp .Or (a :: b :: rest) pos) (tOrD A B) :=
  ⟨pw_imp (pw_or h.pt k.pw) fun σ H Q ⟨δ, S, w, r, he, p⟩ => ⟨δ, S, w, r, he, p.bnd.mono fun x S1 w1 H1 e1 r1 p1 => by
    cases x with
    | true => exact iteT (p1 w1 H1 Wd.Le.rfl r1)
    | false => exact iteF ⟨δ, S1, w1, r1, he.le e1, p1⟩⟩⟩
theorem tv_not {a : Expr} {A : DT} (h : Tv X W a A) : Tv X W (.UnaryOp .Not a pos) (tNotD A) :=
  ⟨pt_imp (pt_not h.pt) fun σ H Q ⟨δ, S, w, r, he, p⟩ => ⟨δ, S, w, r, he, p.bnd.mono fun x S1 w1 H1 e1 r1 p1 => p1 w1 H1 Wd.Le.rfl r1⟩⟩
/-- as values; all but the last are truths -/
def dAnd (A B : DE) : DE := fun δ S => bnd (A δ S) fun x S1 => match x with
  | .bl true => B δ S1
  | .bl false => some (.ok (.bl false) S1)
  | _ => none
def dOr (A B : DE) : DE := fun δ S => bnd (A δ S) fun x S1 => match x with
  | .bl true => some (.ok (.bl true) S1)
  | .bl false => B δ S1
  | _ => none
def dNot (A : DE) : DE := fun δ S => bnd (A δ S) fun x S1 => match x with
  | .bl b => some (.ok (.bl (!b)) S1)
  | _ => none
theorem ev_one {op : BoolOp} {a : Expr} {A : DE} (h : Ev X W a A) : Ev X W (.BoolOp op [a] pos) A := ⟨pe_one h.pe⟩
theorem ev_and {a b : Expr} {rest : List Expr} {A B : DE} (h : Ev X W a A) (k : Ev X W (.BoolOp .And (b :: rest) pos) B) : Ev X W (.BoolOp .And (a :: b :: rest) pos) (dAnd A B) :=
  ⟨pe_imp (pe_and h.pe k.pe) fun σ H Q ⟨δ, S, w, r, he, p⟩ => ⟨δ, S, w, r, he, p.bnd.mono fun x S1 w1 H1 e1 r1 p1 v hv => by
    cases x with
    | bl b =>
      refine ⟨b, hv, ?_⟩
      cases b with
      | true => exact iteT ⟨δ, S1, w1, r1, he.le e1, p1⟩
      | false => exact iteF (p1 w1 H1 Wd.Le.rfl r1 _ rfl)
    | _ => exact p1.elim⟩⟩
theorem ev_or {a b : Expr} {rest : List Expr} {A B : DE} (h : Ev X W a A) (k : Ev X W (.BoolOp .Or (b :: rest) pos) B) : Ev X W (.BoolOp .Or (a :: b :: rest) pos) (dOr A B) :=
  ⟨pe_imp (pe_or h.pe k.pe) fun σ H Q ⟨δ, S, w, r, he, p⟩ => ⟨δ, S, w, r, he, p.bnd.mono fun x S1 w1 H1 e1 r1 p1 v hv => by
    cases x with
    | bl b =>
      refine ⟨b, hv, ?_⟩
      cases b with
      | true => exact iteT (p1 w1 H1 Wd.Le.rfl r1 _ rfl)
      | false => exact iteF ⟨δ, S1, w1, r1, he.le e1, p1⟩
    | _ => exact p1.elim⟩⟩
theorem ev_not {a : Expr} {A : DE} (h : Ev X W a A) : Ev X W (.UnaryOp .Not a pos) (dNot A) :=
  ⟨pe_imp (pe_not h.pe) fun σ H Q ⟨δ, S, w, r, he, p⟩ => ⟨δ, S, w, r, he, p.bnd.mono fun x S1 w1 H1 e1 r1 p1 v hv => by
    cases x with
    | bl b => exact ⟨b, hv, p1 w1 H1 Wd.Le.rfl r1 _ rfl⟩
    | _ => exact p1.elim⟩⟩
def dIf (C : DT) (A B : DE) : DE := fun δ S => bnd (C δ S) fun x S1 => if x = true then A δ S1 else B δ S1
theorem ev_if {c a b : Expr} {C : DT} {A B : DE} (hc : Tv X W c C) (ha : Ev X W a A) (hb : Ev X W b B) : Ev X W (.IfExp c a b pos) (dIf C A B) :=
  ⟨pe_imp (pe_ifExp hc.pt ha.pe hb.pe) fun σ H Q ⟨δ, S, w, r, he, p⟩ => ⟨δ, S, w, r, he, p.bnd.mono fun x S1 w1 H1 e1 r1 p1 => by
    cases x with
    | true => exact iteT ⟨δ, S1, w1, r1, he.le e1, p1⟩
    | false => exact iteF ⟨δ, S1, w1, r1, he.le e1, p1⟩⟩⟩

/-! ### lists of expressions; displays -/
def aNil : DA := fun _ S => some (.ok [] S)
def aCons (A : DE) (B : DA) : DA := fun δ S => bnd (A δ S) fun x S1 => bnd (B δ S1) fun xs S2 => some (.ok (x :: xs) S2)
theorem av_nil : Av X W [] aNil := ⟨pa_imp pa_nil fun σ H Q ⟨δ, S, w, r, he, p⟩ => p w H Wd.Le.rfl r [] rfl⟩
theorem av_cons {e : Expr} {es : List Expr} {A : DE} {B : DA} (h : Ev X W e A) (k : Av X W es B) (hs : starEach (e :: es) X.env = (false, eval e X.env) :: starEach es X.env := by rfl) : Av X W (e :: es) (aCons A B) :=
  ⟨pa_imp (pa_cons h.pe k.pa hs) fun σ H Q ⟨δ, S, w, r, he, p⟩ => ⟨δ, S, w, r, he, p.bnd.mono fun x S1 w1 H1 e1 r1 p1 v hv =>
    ⟨δ, S1, w1, r1, he.le e1, p1.bnd.mono fun xs S2 w2 H2 e2 r2 p2 vs hvs => p2 w2 H2 Wd.Le.rfl r2 _ (Dats.cons (hv.le e2) hvs)⟩⟩⟩
/-- how long a list may be -/
abbrev big : Nat := 1000000
theorem big_line {n : Nat} (h : n ≤ big) : n ≤ sizeLine := Nat.le_trans h (by decide)
theorem big_lt {n : Nat} (h : n < big) : n < sizeLine := Nat.lt_of_lt_of_le h (by decide)
def dTup (A : DA) : DE := fun δ S => bnd (A δ S) fun xs S1 => if xs.length ≤ big then some (.ok (.tup xs) S1) else none
def dLst (A : DA) : DE := fun δ S => bnd (A δ S) fun xs S1 => if xs.length ≤ big then some (.ok (.lst xs) S1) else none
theorem new_tup {K : PySem.W.Frag} {S : Sto} {w : Wd} {H : Hp} {p : Addr} {ds : List D} {xs : List V} (r : Rep K S w H) (hp : H p = none) (h : Dats K w ds xs) :
    w.Le (w.new p (.tup xs)) ∧ Rep K S (w.new p (.tup xs)) (upd H p (.tup xs)) ∧ Dat K (w.new p (.tup xs)) (.tup ds) (.ref p) := by
  have e := w.new_le p (.tup xs) (r.free hp)
  exact ⟨e, r.new hp _, p, xs, rfl, SqT.of (by show upd w.H p _ p = _; rw [upd_same]), h.le e⟩
theorem new_lst {K : PySem.W.Frag} {S : Sto} {w : Wd} {H : Hp} {p : Addr} {ds : List D} {xs : List V} (r : Rep K S w H) (hp : H p = none) (h : Dats K w ds xs) :
    w.Le (w.new p (.lst xs)) ∧ Rep K S (w.new p (.lst xs)) (upd H p (.lst xs)) ∧ Dat K (w.new p (.lst xs)) (.lst ds) (.ref p) := by
  have e := w.new_le p (.lst xs) (r.free hp)
  exact ⟨e, r.new hp _, p, xs, rfl, (by show upd w.H p _ p = _; rw [upd_same]), h.le e⟩
theorem ev_tup {es : List Expr} {k} {A : DA} (h : Av X W es A) : Ev X W (.Tuple es k pos) (dTup A) :=
  ⟨pe_imp (pe_tup h.pa) fun σ H Q ⟨δ, S, w, r, he, p⟩ => ⟨δ, S, w, r, he, p.bnd.mono fun xs S1 w1 H1 e1 r1 p1 vs hvs => by
    by_cases hl : xs.length ≤ big
    · rw [if_pos hl] at p1
      refine ⟨big_line (by rw [hvs.len]; exact hl), fun q hq => ?_⟩
      obtain ⟨h1, h2, h3⟩ := new_tup r1 hq hvs
      exact p1 _ _ h1 h2 _ h3
    · rw [if_neg hl] at p1
      exact p1.elim⟩⟩
theorem ev_lst {es : List Expr} {A : DA} (h : Av X W es A) : Ev X W (.List es pos) (dLst A) :=
  ⟨pe_imp (pe_lst h.pa) fun σ H Q ⟨δ, S, w, r, he, p⟩ => ⟨δ, S, w, r, he, p.bnd.mono fun xs S1 w1 H1 e1 r1 p1 vs hvs => by
    by_cases hl : xs.length ≤ big
    · rw [if_pos hl] at p1
      refine ⟨big_line (by rw [hvs.len]; exact hl), fun q hq => ?_⟩
      obtain ⟨h1, h2, h3⟩ := new_lst r1 hq hvs
      exact p1 _ _ h1 h2 _ h3
    · rw [if_neg hl] at p1
      exact p1.elim⟩⟩
/-- a new list that is owned from now on -/
def dLstO (A : DA) : DE := fun δ S => bnd (A δ S) fun xs S1 => if xs.length ≤ big then some (.ok (.ref S1.length) (S1 ++ [.lst xs])) else none
theorem own_lst {K : PySem.W.Frag} {S : Sto} {w : Wd} {H : Hp} {p : Addr} {ds : List D} {xs : List V} (r : Rep K S w H) (hp : H p = none) (h : Dats K w ds xs) :
    w.Le (w.own p) ∧ Rep K (S ++ [.lst ds]) (w.own p) (upd H p (.lst xs)) ∧ Dat K (w.own p) (.ref S.length) (.ref p) := by
  refine ⟨w.own_le p, r.own hp (fun b hb o e => by rw [upd_ne hb]; exact e) ⟨xs, upd_same, h⟩, ?_, ?_⟩
  · rw [← r.len, w.own_at p]
  · show S.length < w.n + 1
    rw [r.len]
    exact Nat.lt_succ_self _
theorem ev_lstO {es : List Expr} {A : DA} (h : Av X W es A) : Ev X W (.List es pos) (dLstO A) :=
  ⟨pe_imp (pe_lst h.pa) fun σ H Q ⟨δ, S, w, r, he, p⟩ => ⟨δ, S, w, r, he, p.bnd.mono fun xs S1 w1 H1 e1 r1 p1 vs hvs => by
    by_cases hl : xs.length ≤ big
    · rw [if_pos hl] at p1
      refine ⟨big_line (by rw [hvs.len]; exact hl), fun q hq => ?_⟩
      obtain ⟨h1, h2, h3⟩ := own_lst r1 hq hvs
      exact p1 _ _ h1 h2 _ h3
    · rw [if_neg hl] at p1
      exact p1.elim⟩⟩
end
end Cw

set_option maxRecDepth 100000
set_option maxHeartbeats 2000000
set_option linter.all false
/-! Statements, targets, blocks, loops. -/
namespace Cw
open PySem L2

inductive SOut where
  | nx (δ : Env) (S : Sto)
  | ret (d : D) (S : Sto)
  | brk (δ : Env) (S : Sto)
  | ct (δ : Env) (S : Sto)
  | exc (x : Exn) (δ : Env) (S : Sto)
abbrev DS := Env → Sto → Option SOut

/-- what is shown behind a statement -/
def PoS (K : PySem.W.Frag) (W : WX) (w : Wd) (D : Ends) (r : Option SOut) : Prop := match r with
  | none => False
  | some (.nx δ' S') => ∀ σ' w' H', w.Le w' → Rep K S' w' H' → EnvOk K w' σ' δ' → D.nx σ' H'
  | some (.ret d S') => ∀ v w' H', w.Le w' → Rep K S' w' H' → Dat K w' d v → D.rt v H'
  | some (.brk δ' S') => ∀ σ' w' H', w.Le w' → Rep K S' w' H' → EnvOk K w' σ' δ' → D.bk σ' H'
  | some (.ct δ' S') => ∀ σ' w' H', w.Le w' → Rep K S' w' H' → EnvOk K w' σ' δ' → D.ct σ' H'
  | some (.exc x δ' S') => ∀ c od σ' w' H', w.Le w' → Rep K S' w' H' → EnvOk K w' σ' δ' → ExcAt K w' H' x c od → W c od σ' H'
theorem PoS.le {K : PySem.W.Frag} {W : WX} {w w1 : Wd} {D : Ends} {r : Option SOut} (e : w.Le w1) (h : PoS K W w D r) : PoS K W w1 D r := by
  match r, h with
  | some (.nx δ' S'), h => exact fun σ' w' H' e' => h σ' w' H' (e.trans e')
  | some (.ret d S'), h => exact fun v w' H' e' => h v w' H' (e.trans e')
  | some (.brk δ' S'), h => exact fun σ' w' H' e' => h σ' w' H' (e.trans e')
  | some (.ct δ' S'), h => exact fun σ' w' H' e' => h σ' w' H' (e.trans e')
  | some (.exc x δ' S'), h => exact fun c od σ' w' H' e' => h c od σ' w' H' (e.trans e')
/-- an expression's outcome, then a statement's -/
def bndS {α : Type} (r : Option (Out α)) (δ : Env) (f : α → Sto → Option SOut) : Option SOut := match r with
  | none => none
  | some (.exc x S) => some (.exc x δ S)
  | some (.ok a S) => f a S
@[simp] theorem bndS_ok {α : Type} (a : α) (S : Sto) (δ : Env) (f : α → Sto → Option SOut) : bndS (some (.ok a S)) δ f = f a S := rfl
@[simp] theorem bndS_exc {α : Type} (x : Exn) (S : Sto) (δ : Env) (f : α → Sto → Option SOut) : bndS (some (.exc x S)) δ f = some (.exc x δ S) := rfl
@[simp] theorem bndS_none {α : Type} (δ : Env) (f : α → Sto → Option SOut) : bndS (none : Option (Out α)) δ f = none := rfl
theorem PoS.bnd {α : Type} {K : PySem.W.Frag} {W : WX} {w : Wd} {D : Ends} {r : Option (Out α)} {δ : Env} {f : α → Sto → Option SOut} {σ : L2.St} (he : EnvOk K w σ δ) (h : PoS K W w D (bndS r δ f)) :
    Po K W σ w r (fun a S' w' _ => PoS K W w' D (f a S')) := by
  match r, h with
  | some (.ok a S'), h =>
    intro w' H' e _
    exact PoS.le (r := f a S') e h
  | some (.exc x S'), h => exact fun c od w' H' e r hx => h c od σ w' H' e r (he.le e) hx
def TSv (K : PySem.W.Frag) (W : WX) (A : DS) : TS := fun D σ H => ∃ δ S w, Rep K S w H ∧ EnvOk K w σ δ ∧ PoS K W w D (A δ S)
structure Sv (X : Cx) (W : WX) (st : Stmt) (A : DS) : Prop where
  ps : PS X st (TSv X.K W A)
structure Bv (X : Cx) (W : WX) (st : List Stmt) (A : DS) : Prop where
  pss : PSs X st (TSv X.K W A)

/-! ### targets -/
abbrev DG := D → Env → Sto → Option Env
/-- but for the slots ws nothing is stored -/
def But (ws : List Nat) (σ σ' : L2.St) : Prop := σ'.length = σ.length ∧ ∀ i, i ∉ ws → σ'[i]? = σ[i]?
theorem But.rfl {ws : List Nat} {σ : L2.St} : But ws σ σ := ⟨Eq.refl _, fun _ _ => Eq.refl _⟩
theorem But.trans {ws us : List Nat} {σ σ1 σ2 : L2.St} (a : But ws σ σ1) (b : But us σ1 σ2) : But (ws ++ us) σ σ2 := ⟨b.1.trans a.1, fun i hi => by
  rw [List.mem_append, not_or] at hi
  exact (b.2 i hi.2).trans (a.2 i hi.1)⟩
def TGv (K : PySem.W.Frag) (ws : List Nat) (G : DG) : TG := fun v σ H Q => ∃ d δ S w δ', Rep K S w H ∧ EnvOk K w σ δ ∧ Dat K w d v ∧ G d δ S = some δ' ∧ ∀ σ' w' H', w.Le w' → Rep K S w' H' → EnvOk K w' σ' δ' → But ws σ σ' → Q σ' H'
structure Gv (X : Cx) (tg : Expr) (ws : List Nat) (G : DG) : Prop where
  pg : PG X tg (TGv X.K ws G)
abbrev DGs := List D → Env → Sto → Option Env
def TGsv (K : PySem.W.Frag) (ws : List Nat) (G : DGs) : TGs := fun vs σ H Q => ∃ ds δ S w δ', Rep K S w H ∧ EnvOk K w σ δ ∧ Dats K w ds vs ∧ G ds δ S = some δ' ∧ ∀ σ' w' H', w.Le w' → Rep K S w' H' → EnvOk K w' σ' δ' → But ws σ σ' → Q σ' H'
structure Gsv (X : Cx) (tg : List Expr) (ws : List Nat) (G : DGs) : Prop where
  pgs : PGs X tg (TGsv X.K ws G)
theorem pg_imp {X : Cx} {e : Expr} {t t' : TG} (h : PG X e t) (k : ∀ v σ H Q, t' v σ H Q → t v σ H Q) : PG X e t' := ⟨fun pins s σ H v u Q I r q => h.run pins s σ H v u Q I r (k v σ H Q q)⟩
theorem pgs_imp {X : Cx} {e : List Expr} {t t' : TGs} (h : PGs X e t) (k : ∀ v σ H Q, t' v σ H Q → t v σ H Q) : PGs X e t' := ⟨fun pins s σ H v u Q I r q => h.run pins s σ H v u Q I r (k v σ H Q q)⟩
theorem pg_or {X : Cx} {e : Expr} {t t' : TG} (h : PG X e t) (h' : PG X e t') : PG X e (fun v σ H Q => t v σ H Q ∨ t' v σ H Q) := ⟨fun pins s σ H v u Q I r q => q.elim (h.run pins s σ H v u Q I r) (h'.run pins s σ H v u Q I r)⟩
section
variable {X : Cx} {W : WX} {pos : Pos}
def gNm (i : Nat) : DG := fun d δ _ => some (δ.set i (some d))
theorem gv_name {i : Nat} {x : Str} (hN : X.N.Nodup) (hi : X.N[i]? = some x := by rfl) (hx : Loc X.env.scope x := by first | exact Or.inl rfl | exact Or.inr rfl) (hf : X.fn x = true ∨ X.env.scope.names.lookup x = some .local := by first | exact .inl rfl | exact .inr rfl) : Gv X (.Name x pos) [i] (gNm i) :=
  ⟨pg_imp (pg_name hN hi hx hf) fun v σ H Q ⟨d, δ, S, w, δ', r, he, hd, hg, k⟩ => by
    have e : δ.set i (some d) = δ' := by simpa [gNm] using hg
    subst e
    exact k _ w H Wd.Le.rfl r (he.set i hd) ⟨List.length_set, fun j hj => List.getElem?_set_ne (fun q => hj (by rw [q]; exact List.mem_singleton.mpr (Eq.refl _)))⟩⟩
def gsNil : DGs := fun ds δ _ => match ds with | [] => some δ | _ :: _ => none
def gsCons (G : DG) (T : DGs) : DGs := fun ds δ S => match ds with | [] => none | d :: r => (G d δ S).bind fun δ1 => T r δ1 S
theorem gsv_nil : Gsv X [] [] gsNil := ⟨pgs_imp pgs_nil fun v σ H Q ⟨ds, δ, S, w, δ', r, he, hd, hg, k⟩ => by
  cases ds with
  | nil =>
    have e : δ = δ' := by simpa [gsNil] using hg
    subst e
    exact ⟨hd, k _ w H Wd.Le.rfl r he But.rfl⟩
  | cons d ds => cases hg⟩
theorem gsv_cons {e : Expr} {es : List Expr} {ws us : List Nat} {G : DG} {T : DGs} (h1 : Gv X e ws G) (h2 : Gsv X es us T) (hs : (assignEach (e :: es) X.env).map (·.2) = assign e X.env :: (assignEach es X.env).map (·.2) := by rfl) : Gsv X (e :: es) (ws ++ us) (gsCons G T) :=
  ⟨pgs_imp (pgs_cons h1.pg h2.pgs hs) fun v σ H Q ⟨ds, δ, S, w, δ', r, he, hd, hg, k⟩ => by
    cases ds with
    | nil => cases hg
    | cons d ds =>
      obtain ⟨u, us, e, hu, hus⟩ := hd
      obtain ⟨δ1, g1, g2⟩ := Option.bind_eq_some_iff.mp hg
      exact ⟨u, us, e, d, δ, S, w, δ1, r, he, hu, g1, fun σ1 w1 H1 e1 r1 he1 b1 => ⟨ds, δ1, S, w1, δ', r1, he1, hus.le e1, g2, fun σ2 w2 H2 e2 r2 he2 b2 => k σ2 w2 H2 (e1.trans e2) r2 he2 (b1.trans b2)⟩⟩⟩
/-- what a list or tuple holds -/
def items (S : Sto) : D → Option (List D)
  | .tup ds => some ds
  | .lst ds => some ds
  | .scr ds => some ds
  | .ref n => match S[n]? with
    | some (.lst ds) => some ds
    | _ => none
  | _ => none
theorem items_at {K : PySem.W.Frag} {S : Sto} {w : Wd} {H : Hp} {d : D} {v : V} {ds : List D} (r : Rep K S w H) (hv : Dat K w d v) (h : items S d = some ds) : ∃ p xs, v = .ref p ∧ (SqL K H p xs ∨ SqT K H p xs) ∧ Dats K w ds xs := by
  cases d with
  | tup es =>
    obtain ⟨p, xs, e, h1, h2⟩ := hv
    have e' : es = ds := by simpa [items] using h
    subst e'
    exact ⟨p, xs, e, .inr (r.sqT h1), h2⟩
  | lst es =>
    obtain ⟨p, xs, e, h1, h2⟩ := hv
    have e' : es = ds := by simpa [items] using h
    subst e'
    exact ⟨p, xs, e, .inl (SqL.of (r.sub _ _ h1)), h2⟩
  | scr es =>
    obtain ⟨p, xs, e, h1, h2⟩ := hv
    have e' : es = ds := by simpa [items] using h
    subst e'
    exact ⟨p, xs, e, .inl (r.sqL h1), h2⟩
  | ref n =>
    obtain ⟨e, hn⟩ := hv
    have h0 : (match S[n]? with | some (.lst ds) => some ds | _ => none) = some ds := h
    cases q : S[n]? with
    | none => rw [q] at h0; cases h0
    | some o =>
      rw [q] at h0
      obtain ⟨_, h2⟩ := r.obs n o q
      cases o with
      | lst es =>
        have e' : es = ds := by simpa using h0
        subst e'
        obtain ⟨xs, h3, h4⟩ := h2
        exact ⟨_, xs, e, .inl (SqL.of h3), h4⟩
      | _ => cases h0
  | _ => cases h
def gSeq (n : Nat) (T : DGs) : DG := fun d δ S => match items S d with | some ds => if ds.length = n then T ds δ S else none | none => none
theorem gv_seq {es : List Expr} {k : Nat} {ws : List Nat} {T : DGs} {n : Nat} (hc : X.calm = true) (h : Gsv X es ws T) (hn : (assignEach es X.env).length = n := by rfl) (hst : (assignEach es X.env).findIdx? (·.1) = none := by rfl) : Gv X (.Tuple es k pos) ws (gSeq n T) :=
  ⟨pg_imp (pg_or (pg_tup hc h.pgs hn hst) (pg_lst hc h.pgs hn hst)) fun v σ H Q ⟨d, δ, S, w, δ', r, he, hd, hg, kk⟩ => by
    unfold gSeq at hg
    cases q : items S d with
    | none => rw [q] at hg; cases hg
    | some ds =>
      rw [q] at hg
      obtain ⟨p, xs, e, h1, h2⟩ := items_at r hd q
      have hg' : (if ds.length = n then T ds δ S else none) = some δ' := hg
      by_cases hl : ds.length = n
      · rw [if_pos hl] at hg'
        have hl' : xs.length = n := by rw [h2.len]; exact hl
        rcases h1 with h1 | h1
        · exact .inr ⟨p, xs, e, h1, hl', ds, δ, S, w, δ', r, he, h2, hg', kk⟩
        · exact .inl ⟨p, xs, e, h1, hl', ds, δ, S, w, δ', r, he, h2, hg', kk⟩
      · rw [if_neg hl] at hg'
        cases hg'⟩

/-! ### small statements, blocks -/
def sNext : DS := fun δ S => some (.nx δ S)
def sSeq (A B : DS) : DS := fun δ S => match A δ S with
  | none => none
  | some (.nx δ1 S1) => B δ1 S1
  | some o => some o
theorem bv_nil : Bv X W [] sNext := ⟨pss_imp pss_nil fun D σ H ⟨δ, S, w, r, he, p⟩ => p σ w H Wd.Le.rfl r he⟩
theorem bv_one {st : Stmt} {A : DS} (h : Sv X W st A) : Bv X W [st] A := ⟨pss_one h.ps⟩
theorem seq_ok {K : PySem.W.Frag} {A B : DS} : ∀ D σ H, TSv K W (sSeq A B) D σ H → tSeq (TSv K W A) (TSv K W B) D σ H := fun D σ H ⟨δ, S, w, r, he, p⟩ => by
  refine ⟨δ, S, w, r, he, ?_⟩
  unfold sSeq at p
  cases q : A δ S with
  | none => rw [q] at p; exact p.elim
  | some o =>
    rw [q] at p
    cases o with
    | nx δ1 S1 => exact fun σ1 w1 H1 e1 r1 he1 => ⟨δ1, S1, w1, r1, he1, PoS.le (r := B δ1 S1) e1 p⟩
    | ret d S1 => exact p
    | brk δ1 S1 => exact p
    | ct δ1 S1 => exact p
    | exc x δ1 S1 => exact p
theorem bv_cons {st : Stmt} {rest : List Stmt} {A B : DS} (h : Sv X W st A) (k : Bv X W rest B) : Bv X W (st :: rest) (sSeq A B) := ⟨pss_imp (pss_cons h.ps k.pss) seq_ok⟩
theorem sv_pass : Sv X W (.Pass pos) sNext := ⟨ps_imp ps_pass fun D σ H ⟨δ, S, w, r, he, p⟩ => p σ w H Wd.Le.rfl r he⟩
def sBrk : DS := fun δ S => some (.brk δ S)
def sCt : DS := fun δ S => some (.ct δ S)
theorem sv_break : Sv X W (.Break pos) sBrk := ⟨ps_imp ps_break fun D σ H ⟨δ, S, w, r, he, p⟩ => p σ w H Wd.Le.rfl r he⟩
theorem sv_continue : Sv X W (.Continue pos) sCt := ⟨ps_imp ps_continue fun D σ H ⟨δ, S, w, r, he, p⟩ => p σ w H Wd.Le.rfl r he⟩
/-- a statement that is never reached -/
def sNever : DS := fun _ _ => none
theorem sv_never {st : Stmt} : Sv X W st sNever := ⟨ps_imp ps_never fun D σ H ⟨δ, S, w, r, he, p⟩ => p.elim⟩
def sExpr (A : DE) : DS := fun δ S => bndS (A δ S) δ fun _ S1 => some (.nx δ S1)
theorem sv_expr {e : Expr} {A : DE} (h : Ev X W e A) (hs : swapsWith e none pos.line X.env = pure false := by rfl) : Sv X W (.Expr e pos) (sExpr A) :=
  ⟨ps_imp (ps_expr h.pe hs) fun D σ H ⟨δ, S, w, r, he, p⟩ => ⟨δ, S, w, r, he, (p.bnd he).mono fun d S1 w1 H1 e1 r1 p1 v hv => p1 σ w1 H1 Wd.Le.rfl r1 (he.le e1)⟩⟩
def sRet (A : DE) : DS := fun δ S => bndS (A δ S) δ fun d S1 => some (.ret d S1)
theorem sv_ret {e : Expr} {A : DE} (h : Ev X W e A) : Sv X W (.Return (some e) pos) (sRet A) :=
  ⟨ps_imp (ps_ret h.pe) fun D σ H ⟨δ, S, w, r, he, p⟩ => ⟨δ, S, w, r, he, (p.bnd he).mono fun d S1 w1 H1 e1 r1 p1 v hv => p1 v w1 H1 Wd.Le.rfl r1 hv⟩⟩
def sRetN : DS := fun _ S => some (.ret .non S)
theorem sv_retN : Sv X W (.Return none pos) sRetN := ⟨ps_imp ps_retN fun D σ H ⟨δ, S, w, r, he, p⟩ => p .non w H Wd.Le.rfl r rfl⟩
def sIf (C : DT) (A B : DS) : DS := fun δ S => bndS (C δ S) δ fun b S1 => if b = true then A δ S1 else B δ S1
theorem sv_if {c : Expr} {p q : List Stmt} {C : DT} {A B : DS} (hc : Tv X W c C) (ha : Bv X W p A) (hb : Bv X W q B) : Sv X W (.If c p q pos) (sIf C A B) :=
  ⟨ps_imp (ps_if hc.pt ha.pss hb.pss) fun D σ H ⟨δ, S, w, r, he, p⟩ => ⟨δ, S, w, r, he, (p.bnd he).mono fun b S1 w1 H1 e1 r1 p1 => by
    cases b with
    | true => exact iteT ⟨δ, S1, w1, r1, he.le e1, p1⟩
    | false => exact iteF ⟨δ, S1, w1, r1, he.le e1, p1⟩⟩⟩
/-- target = e -/
def sAsg (A : DE) (G : DG) : DS := fun δ S => bndS (A δ S) δ fun d S1 => match G d δ S1 with | some δ1 => some (.nx δ1 S1) | none => none
theorem asg_ok {K : PySem.W.Frag} {A : DE} {ws : List Nat} {G : DG} {g : TG} (hg : ∀ v σ H Q, TGv K ws G v σ H Q → g v σ H Q) : ∀ D σ H, TSv K W (sAsg A G) D σ H → tAsg (TEv K W A) g D σ H := fun D σ H ⟨δ, S, w, r, he, p⟩ =>
  ⟨δ, S, w, r, he, (p.bnd he).mono fun d S1 w1 H1 e1 r1 p1 v hv => hg _ _ _ _ (by
    cases q : G d δ S1 with
    | none => rw [q] at p1; exact p1.elim
    | some δ1 =>
      rw [q] at p1
      exact ⟨d, δ, S1, w1, δ1, r1, he.le e1, hv, q, fun σ' w' H' e2 r2 he2 _ => p1 σ' w' H' e2 r2 he2⟩)⟩
theorem sv_asg {tg e : Expr} {A : DE} {ws : List Nat} {G : DG} (h : Ev X W e A) (hg : Gv X tg ws G) (hs : swapsWithSole [tg] e pos.line X.env = pure false := by rfl) (hw : swappedStores [tg] e X.env = pure none := by rfl)
    (h1 : (assignEach [tg] X.env).map (·.2) = [assign tg X.env] := by rfl) : Sv X W (.Assign [tg] e pos) (sAsg A G) := ⟨ps_imp (ps_asg h.pe hg.pg hs hw h1) (asg_ok fun _ _ _ _ h => h)⟩
theorem gName_ok {K : PySem.W.Frag} {i : Nat} : ∀ v σ H Q, TGv K [i] (gNm i) v σ H Q → gName i v σ H Q := fun v σ H Q ⟨d, δ, S, w, δ', r, he, hd, hg, k⟩ => by
  have e : δ.set i (some d) = δ' := by simpa [gNm] using hg
  subst e
  exact k _ w H Wd.Le.rfl r (he.set i hd) ⟨List.length_set, fun j hj => List.getElem?_set_ne (fun q => hj (by rw [q]; exact List.mem_singleton.mpr rfl))⟩
theorem sv_set {i : Nat} {x : Str} {e : Expr} {A : DE} {pos' : Pos} (h : Ev X W e A) (hN : X.N.Nodup) (hi : X.N[i]? = some x := by rfl) (hx : Loc X.env.scope x := by first | exact Or.inl rfl | exact Or.inr rfl) (hs : swapsWith e (some (.Name x pos')) pos.line X.env = pure false := by rfl)
    (hf : X.fn x = true ∨ X.env.scope.names.lookup x = some .local := by first | exact .inl rfl | exact .inr rfl) : Sv X W (.Assign [.Name x pos'] e pos) (sAsg A (gNm i)) :=
  ⟨ps_imp (ps_set hN hi hx h.pe hs hf) (asg_ok (ws := [i]) gName_ok)⟩

/-! ### loops -/
/-- a turn's end, then the next turn -/
def contD (o : Option SOut) (k : DS) : Option SOut := match o with
  | none => none
  | some (.nx δ2 S2) => k δ2 S2
  | some (.ct δ2 S2) => k δ2 S2
  | some (.brk δ2 S2) => some (.nx δ2 S2)
  | some (.ret d S2) => some (.ret d S2)
  | some (.exc x δ2 S2) => some (.exc x δ2 S2)
@[simp] theorem contD_nx (δ : Env) (S : Sto) (k : DS) : contD (some (.nx δ S)) k = k δ S := rfl
@[simp] theorem contD_ct (δ : Env) (S : Sto) (k : DS) : contD (some (.ct δ S)) k = k δ S := rfl
@[simp] theorem contD_brk (δ : Env) (S : Sto) (k : DS) : contD (some (.brk δ S)) k = some (.nx δ S) := rfl
@[simp] theorem contD_ret (d : D) (S : Sto) (k : DS) : contD (some (.ret d S)) k = some (.ret d S) := rfl
@[simp] theorem contD_exc (x : Exn) (δ : Env) (S : Sto) (k : DS) : contD (some (.exc x δ S)) k = some (.exc x δ S) := rfl
/-- one turn behind another -/
def forD (G : DG) (B : DS) : List D → DS
  | [], δ, S => some (.nx δ S)
  | d :: ds, δ, S => match G d δ S with
    | none => none
    | some δ1 => contD (B δ1 S) (forD G B ds)
/-- the readings of one turn -/
theorem for_turn {K : PySem.W.Frag} {ws : List Nat} {G : DG} {B : DS} {d : D} {ds : List D} {v : V} {δ : Env} {S : Sto} {w : Wd} {σ : L2.St} {H : Hp} {D : Ends} {N : L2.St → Hp → Prop} (r : Rep K S w H) (he : EnvOk K w σ δ) (hv : Dat K w d v) (p : PoS K W w D (forD G B (d :: ds) δ S))
    (k : ∀ δ' S' σ' w' H', w.Le w' → Rep K S' w' H' → EnvOk K w' σ' δ' → PoS K W w' D (forD G B ds δ' S') → N σ' H') :
    TGv K ws G v σ H fun σ2 H2 => TSv K W B { D with nx := N, ct := N, bk := D.nx } σ2 H2 := by
  unfold forD at p
  cases q : G d δ S with
  | none => rw [q] at p; exact p.elim
  | some δ1 =>
    rw [q] at p
    refine ⟨d, δ, S, w, δ1, r, he, hv, q, fun σ2 w2 H2 e2 r2 he2 _ => ⟨δ1, S, w2, r2, he2, ?_⟩⟩
    have p' : PoS K W w2 D (contD (B δ1 S) (forD G B ds)) := PoS.le e2 p
    cases q2 : B δ1 S with
    | none => rw [q2] at p'; exact p'.elim
    | some o =>
      rw [q2] at p'
      cases o with
      | nx δ2 S2 => exact fun σ3 w3 H3 e3 r3 he3 => k δ2 S2 σ3 w3 H3 (e2.trans e3) r3 he3 (PoS.le (r := forD G B ds δ2 S2) e3 p')
      | ct δ2 S2 => exact fun σ3 w3 H3 e3 r3 he3 => k δ2 S2 σ3 w3 H3 (e2.trans e3) r3 he3 (PoS.le (r := forD G B ds δ2 S2) e3 p')
      | brk δ2 S2 => exact p'
      | ret d S1 => exact p'
      | exc x δ1 S1 => exact p'
/-- what is walked, told by its items at the start -/
abbrev DI := Env → Sto → Option (Out (List D))
def sFor (I : DI) (G : DG) (B : DS) : DS := fun δ S => bndS (I δ S) δ fun ds S1 => forD G B ds δ S1
/-- over a list or tuple that is nobody's -/
def still : D → Option (List D)
  | .tup ds => some ds
  | .lst ds => some ds
  | .scr ds => some ds
  | _ => none
theorem still_at {K : PySem.W.Frag} {w : Wd} {d : D} {v : V} {ds : List D} (hv : Dat K w d v) (h : still d = some ds) : ∃ p xs, v = .ref p ∧ (SqL K w.H p xs ∨ SqT K w.H p xs) ∧ Dats K w ds xs := by
  cases d with
  | tup es =>
    obtain ⟨p, xs, e, h1, h2⟩ := hv
    have e' : es = ds := by simpa [still] using h
    subst e'
    exact ⟨p, xs, e, .inr h1, h2⟩
  | lst es =>
    obtain ⟨p, xs, e, h1, h2⟩ := hv
    have e' : es = ds := by simpa [still] using h
    subst e'
    exact ⟨p, xs, e, .inl (SqL.of h1), h2⟩
  | scr es =>
    obtain ⟨p, xs, e, h1, h2⟩ := hv
    have e' : es = ds := by simpa [still] using h
    subst e'
    exact ⟨p, xs, e, .inl h1, h2⟩
  | _ => cases h
/-- a walk that yields these items, one behind another, whatever else happens -/
def WalkD (K : PySem.W.Frag) (J : It) (ds : List D) (w1 : Wd) : Prop := ∀ (i : Nat) (S' : Sto) (w' : Wd) (H' : Hp), w1.Kn w' → Rep K S' w' H' →
  (∀ d, ds[i]? = some d → J.go i H' ∧ ∀ x H2, J.yld i H' x H2 → ∃ w2, w'.Le w2 ∧ Rep K S' w2 H2 ∧ Dat K w2 d x) ∧ (ds.length ≤ i → J.stop i H')
def TIv (K : PySem.W.Frag) (W : WX) (I : DI) : TI := fun σ H R => ∃ δ S w, Rep K S w H ∧ EnvOk K w σ δ ∧ Po K W σ w (I δ S) (fun ds _ w1 H1 => ∀ J, WalkD K J ds w1 → R J H1)
structure Iv (X : Cx) (W : WX) (tg iter : Expr) (I : DI) : Prop where
  pi : PI X tg iter (TIv X.K W I)
theorem pi_imp {X : Cx} {tg e : Expr} {t t' : TI} (h : PI X tg e t) (k : ∀ σ H Q, t' σ H Q → t σ H Q) : PI X tg e t' := ⟨fun pins s σ H Q I q => h.run pins s σ H Q I (k σ H Q q)⟩
/-- a walk over a list or a tuple -/
def iBoth (K : PySem.W.Frag) (tl : TE) : TI := fun σ H R => tl σ H fun x H1 => ∃ a, x = .ref a ∧ (((∃ xs, SqL K H1 a xs) ∧ R (Itl K a) H1) ∨ ((∃ xs, SqT K H1 a xs) ∧ R (Itt K a) H1))
theorem pi_both {tg l : Expr} {tl : TE} (hl : PE X l tl) : PI X tg l (iBoth X.K tl) := by
  refine ⟨fun pins s σ H R I h => ?_⟩
  refine thn (hl.run pins s σ H _ I h) fun v s1 ⟨x, H1, I1, r1, a, e, q⟩ => ?_
  subst e
  cases r1
  have fp : ∀ b ∈ [s1.heap.objs.size], FpOk X pins H1 b := fun b hb => by
    rw [List.mem_singleton.mp hb]
    exact I1.fpOk (Nat.le_refl _) (I1.hok.fresh (Nat.le_refl _))
  rcases q with ⟨⟨xs, hq⟩, q⟩ | ⟨⟨xs, hq⟩, q⟩
  · obtain ⟨its, rv, pl, _⟩ := I1.list hq
    exact wpAny_pyIter_list pl.isList ⟨s1.heap.objs.size, [s1.heap.objs.size], _, _, H1, rfl, I1.kept (t' := s1.toks) fun b o e => Heap.get?_push_of_some _ e, turn_list a _, ⟨_, Heap.get?_push_size _ rfl, rfl, rfl⟩, fp, q⟩
  · obtain ⟨its, rv, pl, _⟩ := I1.tuple hq
    exact wpAny_pyIter_tuple (show s1.heap.IsTuple a its.toArray from pl) ⟨s1.heap.objs.size, [s1.heap.objs.size], _, _, H1, rfl, I1.kept (t' := s1.toks) fun b o e => Heap.get?_push_of_some _ e, turn_tuple a _, ⟨_, Heap.get?_push_size _ rfl, rfl, rfl⟩, fp, q⟩
theorem drop_cons {α : Type} {l : List α} {i : Nat} {a : α} (h : l[i]? = some a) : l.drop i = a :: l.drop (i + 1) := by
  obtain ⟨hi, e⟩ := List.getElem?_eq_some_iff.mp h
  rw [List.drop_eq_getElem_cons hi, e]
theorem sv_for {tg iter : Expr} {body : List Stmt} {I : DI} {ws : List Nat} {G : DG} {B : DS} (hp : PassesOwn (model X.prog X.w) X.A X.env X.xe) (hc : X.calm = true) (hi : Iv X W tg iter I) (hg : Gv X tg ws G) (hb : Bv X W body B)
    (hs : ∀ x, foldedSetIterable iter X.env x = pure x := by intro _; rfl) : Sv X W (.For tg iter body [] pos) (sFor I G B) :=
  ⟨ps_imp (ps_for hp hc hi.pi hg.pg hb.pss hs) fun D σ H ⟨δ, S, w, r, he, p⟩ => by
    refine ⟨δ, S, w, r, he, (p.bnd he).mono fun ds S1 w1 H1 e1 r1 p1 J hJ => ?_⟩
    refine ⟨fun i m σ' H' => m = ds.length - i ∧ ∃ δ' S' w', w1.Le w' ∧ Rep X.K S' w' H' ∧ EnvOk X.K w' σ' δ' ∧ PoS X.K W w' D (forD G B (ds.drop i) δ' S'), ⟨_, rfl, δ, S1, w1, Wd.Le.rfl, r1, he.le e1, p1⟩, ?_⟩
    rintro i m σ' H' ⟨rfl, δ', S', w', e', r', he', p'⟩
    obtain ⟨hgo, hst⟩ := hJ i S' w' H' e'.kn r'
    cases hd : ds[i]? with
    | none =>
      have hi : ds.length ≤ i := List.getElem?_eq_none_iff.mp hd
      rw [List.drop_of_length_le hi] at p'
      exact .inl ⟨hst hi, p' σ' w' H' Wd.Le.rfl r' he'⟩
    | some d =>
      have hi : i < ds.length := (List.getElem?_eq_some_iff.mp hd).1
      obtain ⟨g1, g2⟩ := hgo d hd
      refine .inr ⟨g1, fun σ2 H2 => ∃ δ2 S2 w2, w1.Le w2 ∧ Rep X.K S2 w2 H2 ∧ EnvOk X.K w2 σ2 δ2 ∧ PoS X.K W w2 D (forD G B (ds.drop (i + 1)) δ2 S2), fun σ2 H2 h2 => ⟨ds.length - (i + 1), by omega, rfl, h2⟩, fun x H2 y => ?_⟩
      obtain ⟨w2, e2, r2, hx⟩ := g2 x H2 y
      rw [drop_cons hd] at p'
      exact for_turn r2 (he'.le e2) hx (PoS.le (r := forD G B (d :: ds.drop (i + 1)) δ' S') e2 p') fun δ3 S3 σ3 w3 H3 e3 r3 he3 p3 => ⟨δ3, S3, w3, e'.trans (e2.trans e3), r3, he3, p3⟩⟩
theorem walk_l {K : PySem.W.Frag} {a : Addr} {xs : List V} {ds : List D} {w1 : Wd} (hq : SqL K w1.H a xs) (hx : Dats K w1 ds xs) : WalkD K (Itl K a) ds w1 := fun i S' w' H' e' r' => by
  have q := r'.sqL (sqL_le e'.h hq)
  refine ⟨fun d hd => ?_, fun hi => ⟨xs, q, by rw [hx.len]; exact hi⟩⟩
  obtain ⟨v, h1, h2⟩ := hx.get hd
  refine ⟨⟨xs, v, q, h1⟩, fun x H2 ⟨e2, y⟩ => ?_⟩
  have e3 : xs[i]? = some x := y xs q
  rw [h1] at e3
  cases e3
  rw [e2]
  exact ⟨w', Wd.Le.rfl, r', h2.kn e'⟩
theorem walk_t {K : PySem.W.Frag} {a : Addr} {xs : List V} {ds : List D} {w1 : Wd} (hq : SqT K w1.H a xs) (hx : Dats K w1 ds xs) : WalkD K (Itt K a) ds w1 := fun i S' w' H' e' r' => by
  have q := r'.sqT (sqT_le e'.h hq)
  refine ⟨fun d hd => ?_, fun hi => ⟨xs, q, by rw [hx.len]; exact hi⟩⟩
  obtain ⟨v, h1, h2⟩ := hx.get hd
  refine ⟨⟨xs, v, q, h1⟩, fun x H2 ⟨e2, y⟩ => ?_⟩
  have e3 : xs[i]? = some x := y xs q
  rw [h1] at e3
  cases e3
  rw [e2]
  exact ⟨w', Wd.Le.rfl, r', h2.kn e'⟩
def iSeq (A : DE) : DI := fun δ S => bnd (A δ S) fun d S1 => up (still d) S1
theorem iv_seq {tg l : Expr} {A : DE} (h : Ev X W l A) : Iv X W tg l (iSeq A) :=
  ⟨pi_imp (pi_both h.pe) fun σ H R ⟨δ, S, w, r, he, p⟩ => ⟨δ, S, w, r, he, p.bnd.mono fun d S1 w1 H1 e1 r1 p1 v hv => by
    obtain ⟨ds, hds, p1⟩ := p1.up r1
    obtain ⟨a, xs, e, hq, hx⟩ := still_at hv hds
    refine ⟨a, e, ?_⟩
    rcases hq with hq | hq
    · exact .inl ⟨⟨xs, r1.sqL hq⟩, p1 _ (walk_l hq hx)⟩
    · exact .inr ⟨⟨xs, r1.sqT hq⟩, p1 _ (walk_t hq hx)⟩⟩⟩
/-- over a range -/
def upto (lo : Int) (n : Nat) : List D := (List.range n).map fun (i : Nat) => D.int (lo + (i : Int))
theorem upto_at {lo : Int} {n i : Nat} (h : i < n) : (upto lo n)[i]? = some (.int (lo + (i : Int))) := by
  unfold upto
  rw [List.getElem?_map, List.getElem?_range h]
  rfl
theorem upto_len (lo : Int) (n : Nat) : (upto lo n).length = n := by
  unfold upto
  rw [List.length_map, List.length_range]
def isSmall (i : Int) : Prop := -(2 ^ 62) ≤ i ∧ i < 2 ^ 62
instance (i : Int) : Decidable (isSmall i) := inferInstanceAs (Decidable (_ ∧ _))
def rng1 : List D → Option (List D)
  | [.int j] => if isSmall j then some (upto 0 j.toNat) else none
  | _ => none
def rng2 : List D → Option (List D)
  | [.int i, .int j] => if isSmall i ∧ isSmall j then some (upto i (j - i).toNat) else none
  | _ => none
def iRg1 (A : DA) : DI := fun δ S => bnd (A δ S) fun xs S1 => up (rng1 xs) S1
def iRg2 (A : DA) : DI := fun δ S => bnd (A δ S) fun xs S1 => up (rng2 xs) S1
theorem walk_r {K : PySem.W.Frag} {lo : Int} {n : Nat} {w1 : Wd} : WalkD K (Itr lo n) (upto lo n) w1 := fun i S' w' H' e' r' => by
  refine ⟨fun d hd => ?_, fun hi => by rw [upto_len] at hi; exact hi⟩
  have hi : i < n := by
    have := (List.getElem?_eq_some_iff.mp hd).1
    rw [upto_len] at this
    exact this
  rw [upto_at hi] at hd
  cases hd
  exact ⟨hi, fun x H2 ⟨e2, y⟩ => ⟨w', Wd.Le.rfl, by rw [e2]; exact r', y⟩⟩
theorem dats1 {K : PySem.W.Frag} {w : Wd} {i : Int} {vs : List V} (h : Dats K w [.int i] vs) : vs = [.int i] := by
  obtain ⟨v, r, e, h1, h2⟩ := h
  rw [e, show v = .int i from h1, show r = [] from h2]
theorem iv_rng1 {tg a : Expr} {p : Pos} {A : DA} (hgl : Gl X "range") (hm : X.mg "range" = none) (ha : Av X W [a] A) (hse : starEach [a] X.env = [(false, eval a X.env)] := by rfl) : Iv X W tg (.Call (.Name "range" p) [a] [] pos) (iRg1 A) :=
  ⟨pi_imp (pi_range1 hgl hm ha.pa hse) fun σ H R ⟨δ, S, w, r, he, p⟩ => ⟨δ, S, w, r, he, p.bnd.mono fun xs S1 w1 H1 e1 r1 p1 vs hv => by
    obtain ⟨ds, hds, p1⟩ := p1.up r1
    match xs, hds with
    | [.int j], hds =>
      have hds' : (if isSmall j then some (upto 0 j.toNat) else none) = some ds := hds
      by_cases hj : isSmall j
      · rw [if_pos hj] at hds'
        have e : upto 0 j.toNat = ds := by simpa using hds'
        subst e
        exact ⟨j, dats1 hv, hj.1, hj.2, p1 _ walk_r⟩
      · rw [if_neg hj] at hds'
        cases hds'⟩⟩
theorem iv_rng2 {tg a b : Expr} {p : Pos} {A : DA} (hgl : Gl X "range") (hm : X.mg "range" = none) (ha : Av X W [a, b] A) (hse : starEach [a, b] X.env = [(false, eval a X.env), (false, eval b X.env)] := by rfl) (hse2 : starEach [b] X.env = [(false, eval b X.env)] := by rfl) : Iv X W tg (.Call (.Name "range" p) [a, b] [] pos) (iRg2 A) :=
  ⟨pi_imp (pi_range2 hgl hm ha.pa hse hse2) fun σ H R ⟨δ, S, w, r, he, p⟩ => ⟨δ, S, w, r, he, p.bnd.mono fun xs S1 w1 H1 e1 r1 p1 vs hv => by
    obtain ⟨ds, hds, p1⟩ := p1.up r1
    match xs, hds with
    | [.int i, .int j], hds =>
      have hds' : (if isSmall i ∧ isSmall j then some (upto i (j - i).toNat) else none) = some ds := hds
      by_cases hj : isSmall i ∧ isSmall j
      · rw [if_pos hj] at hds'
        have e : upto i (j - i).toNat = ds := by simpa using hds'
        subst e
        obtain ⟨v, rr, e3, h1, h2⟩ := hv
        exact ⟨i, j, by rw [e3, show v = .int i from h1, dats1 h2], ⟨hj.1.1, hj.1.2, hj.2.1, hj.2.2⟩, p1 _ walk_r⟩
      · rw [if_neg hj] at hds'
        cases hds'⟩⟩
/-- while, so many turns at most -/
def whileD (C : DT) (B : DS) : Nat → DS
  | 0, _, _ => none
  | n + 1, δ, S => bndS (C δ S) δ fun b S1 => if b = true then contD (B δ S1) (whileD C B n) else some (.nx δ S1)
/-- of as many turns as it takes -/
noncomputable def sWhile (C : DT) (B : DS) : DS := fun δ S => open Classical in if h : ∃ n, (whileD C B n δ S).isSome = true then whileD C B h.choose δ S else none
theorem sv_while {c : Expr} {body : List Stmt} {C : DT} {B : DS} (hp : PassesOwn (model X.prog X.w) X.A X.env X.xe) (hc : Tv X W c C) (hb : Bv X W body B) : Sv X W (.While c body [] pos) (sWhile C B) :=
  ⟨ps_imp (ps_while hp hc.pt hb.pss) fun D σ H ⟨δ, S, w, r, he, p⟩ => by
    have hn : ∃ n, PoS X.K W w D (whileD C B n δ S) := by
      unfold sWhile at p
      split at p
      · exact ⟨_, p⟩
      · exact p.elim
    obtain ⟨n, p⟩ := hn
    refine ⟨fun n σ' H' => ∃ δ' S' w', Rep X.K S' w' H' ∧ EnvOk X.K w' σ' δ' ∧ PoS X.K W w' D (whileD C B n δ' S'), ⟨n, δ, S, w, r, he, p⟩, ?_⟩
    rintro m σ' H' ⟨δ', S', w', r', he', p'⟩
    cases m with
    | zero => exact p'.elim
    | succ m =>
      refine ⟨δ', S', w', r', he', (p'.bnd he').mono fun b S1 w1 H1 e1 r1 p1 => ?_⟩
      cases b with
      | false => exact iteF (p1 σ' w1 H1 Wd.Le.rfl r1 (he'.le e1))
      | true =>
        refine iteT ⟨fun σ' H' => ∃ δ' S' w', Rep X.K S' w' H' ∧ EnvOk X.K w' σ' δ' ∧ PoS X.K W w' D (whileD C B m δ' S'), fun σ2 H2 h => ⟨m, Nat.lt_succ_self _, h⟩, δ', S1, w1, r1, he'.le e1, ?_⟩
        have p2 : PoS X.K W w1 D (contD (B δ' S1) (whileD C B m)) := p1
        cases q2 : B δ' S1 with
        | none => rw [q2] at p2; exact p2.elim
        | some o =>
          rw [q2] at p2
          cases o with
          | nx δ2 S2 => exact fun σ3 w3 H3 e3 r3 he3 => ⟨δ2, S2, w3, r3, he3, PoS.le (r := whileD C B m δ2 S2) e3 p2⟩
          | ct δ2 S2 => exact fun σ3 w3 H3 e3 r3 he3 => ⟨δ2, S2, w3, r3, he3, PoS.le (r := whileD C B m δ2 S2) e3 p2⟩
          | brk δ2 S2 => exact p2
          | ret d S1 => exact p2
          | exc x δ1 S1 => exact p2⟩
end
end Cw

set_option maxRecDepth 100000
set_option maxHeartbeats 2000000
set_option linter.all false
/-! Defs: what they come to by plain data; calls; the law's own call. (As the layer's FnOk, with one more word: nothing is being told of an object around.) -/
namespace Cw
open PySem PySem.Spec PyProof.Rows L2

/-- what a def comes to -/
abbrev Fn := List D → Sto → Option (Out D)
def PoF (K : PySem.W.Frag) (w : Wd) (r : Option (Out D)) (Q : VK) (E : XK) : Prop := match r with
  | none => False
  | some (.ok d S') => ∀ v w' H', w.Le w' → Rep K S' w' H' → Dat K w' d v → Q v H'
  | some (.exc x S') => ∀ c od w' H', w.Le w' → Rep K S' w' H' → ExcAt K w' H' x c od → E c od H'
def spD (K : PySem.W.Frag) (n : Nat) (F : Fn) : Sp := fun vs H Q E => ∃ ds S w, ds.length = n ∧ Rep K S w H ∧ Dats K w ds vs ∧ PoF K w (F ds S) Q E

structure GnOk (P : Program) (w : World) (K : PySem.W.Frag) (mg : Str → Option Value) (base : Heap) (k : Nat) (f : Addr) (fd : FuncData) (ps : List Str) (F : Fn) : Prop where
  run : ∀ (B : Around) (outer : List PySem.Env) (st : Shared) (G : Hp) (args : Args) (us : List Value) (vs : List V) (Q : VK) (E : XK), Room k B → B.guards = some [] → Env0 P w K mg base B outer st G → BindsTo st fd args (ps.zip us) → Vals vs us →
    spD K ps.length F vs G Q E → codeAny (model P w) B (.call (.ref f) args) (CR (L2.CX P w) outer P w G st Q E) st
theorem GnOk.mono {P : Program} {w : World} {K : PySem.W.Frag} {mg : Str → Option Value} {base : Heap} {j k : Nat} {f : Addr} {fd : FuncData} {ps : List Str} {F : Fn} (g : GnOk P w K mg base j f fd ps F) (h : j ≤ k) : GnOk P w K mg base k f fd ps F :=
  ⟨fun B outer st G args us vs Q E hr => g.run B outer st G args us vs Q E (hr.mono h)⟩

/-- one outcome in the place of another: what is owned anew may be forgotten -/
def Cl (K : PySem.W.Frag) (S : Sto) (r r' : Option (Out D)) : Prop := ∀ w Q E H, Rep K S w H → PoF K w r' Q E → PoF K w r Q E
theorem GnOk.imp {P : Program} {w : World} {K : PySem.W.Frag} {mg : Str → Option Value} {base : Heap} {k : Nat} {f : Addr} {fd : FuncData} {ps : List Str} {F F' : Fn} (g : GnOk P w K mg base k f fd ps F)
    (h : ∀ ds S r, ds.length = ps.length → F' ds S = some r → Cl K S (F ds S) (some r)) : GnOk P w K mg base k f fd ps F' :=
  ⟨fun B outer st G args us vs Q E hr hg e hb hv ⟨ds, S, w', hl, r, hd, p⟩ => g.run B outer st G args us vs Q E hr hg e hb hv ⟨ds, S, w', hl, r, hd, by
    cases q : F' ds S with
    | none => rw [q] at p; exact p.elim
    | some o =>
      rw [q] at p
      exact h ds S o hl q w' Q E G r p⟩⟩

section
variable {P : Program} {w : World} {K : PySem.W.Frag} {mg : Str → Option Value} {base : Heap}
/-- a body's end as the def's -/
def body (n : Nat) (A : DS) : Fn := fun ds S => match A (ds.map some ++ List.replicate (n - ds.length) none) S with
  | some (.nx _ S') => some (.ok .non S')
  | some (.ret d S') => some (.ok d S')
  | some (.exc x _ S') => some (.exc x S')
  | _ => none
theorem start_env {w : Wd} {N : List Str} {ds : List D} {vs : List V} (h : Dats K w ds vs) : EnvOk K w (L2.start N vs) (ds.map some ++ List.replicate (N.length - ds.length) none) := by
  refine ⟨by simp [L2.start, h.len], fun i d e => ?_⟩
  unfold L2.start
  by_cases hi : i < ds.length
  · rw [List.getElem?_append_left (by simpa using hi), List.getElem?_map] at e
    cases q : ds[i]? with
    | none => rw [q] at e; cases e
    | some d' =>
      rw [q] at e
      have e' : d' = d := by simpa using e
      subst e'
      obtain ⟨v, h1, h2⟩ := h.get q
      refine ⟨v, ?_, h2⟩
      rw [List.getElem?_append_left (by rw [List.length_map, h.len]; exact hi), List.getElem?_map, h1]
      rfl
  · rw [List.getElem?_append_right (by simpa using hi), List.getElem?_replicate] at e
    split at e <;> cases e
/-- THE RULE for a def: its body's rules, for every place where it may run -/
theorem gn_of {x qual : Str} {params : Arguments} {bd : List Stmt} {scope : Scope} {dvs : List V} {kws : List (Str × V)} {f : Addr} {fd : FuncData} {N ps : List Str} {k : Nat} {A : DS} (F : FunD K x qual params bd scope dvs kws f fd) (Z : FnScope N ps scope)
    (hbody : ∀ (cdv : Value) (B : Around) (outer : List PySem.Env) (st : Shared) (G : Hp) (E : XK), B.guards = some [] → Room k (B.deeper (envOfC qual scope st.heap.objs.size f cdv)) →
      Bv (cxOf (L2.CX P w) P w K mg base N qual scope f cdv B outer st G E) (fun c d _ H => E c d H) bd A) : GnOk P w K mg base (k + 1) f fd ps (body N.length A) := by
  obtain ⟨oc, od, dV, kV, doc, pm, an, cdv, ct, osl, rfl, lk, hcd, _, _⟩ := F.ex
  refine ⟨fun B outer st G args us vs Q E hr hg e0 hb rv ⟨ds, S, wd, hlen, rep, hds, po⟩ => ?_⟩
  have vlen : vs.length = ps.length := hds.len.trans hlen
  have kin : K.In st.heap := e0.mod.kin.keeps fun b o e => (e0.bs b o e).1
  have nolim : st.heap.NoLimit := e0.mod.nolimit.keeps fun b o e => (e0.bs b o e).1
  have kinds : ∀ y ∈ ps.zip us, scope.names.lookup y.1 = some .local ∨ (scope.names.lookup y.1 = some .cell ∧ ((cellsFrom (st.heap.objs.size + 1) scope.names []).lookup y.1).isSome = true) := fun y hy =>
    (Z.par y.1 (List.of_mem_zip (a := y.1) (b := y.2) hy).1).imp id fun q => ⟨q, PySem.W.cellsFrom_some _ _ _ (.inl q)⟩
  refine codeAny_call_function hr.depth (kin _ _ lk) rfl Z.co Z.gen rfl (PySem.W.codeRec_of kin hcd) (hb _ _ _ _ ?_)
  refine wpAny_newFunctionEnv_cells Z.kind kinds fun env he s1 ic => ?_
  subst he
  refine ⟨nolim.keeps ic.toInCall.keep, codeAny_func ?_⟩
  have bv := hbody cdv B outer st G E hg (hr.deeper _)
  have inv : Inv (cxOf (L2.CX P w) P w K mg base N qual scope f cdv B outer st G E) [] (L2.start N vs) G s1 := inv_start Z hr.hd e0 vlen rv ic
  have hA : PoS K (fun c d _ H => E c d H) wd { nx := fun _ H' => Q .non H', rt := Q } (A (ds.map some ++ List.replicate (N.length - ds.length) none) S) := by
    unfold body at po
    cases q : A (ds.map some ++ List.replicate (N.length - ds.length) none) S with
    | none => rw [q] at po; exact po.elim
    | some o =>
      rw [q] at po
      cases o with
      | nx δ S' => exact fun σ' w' H' e r _ => po .non w' H' e r rfl
      | ret d S' => exact po
      | brk δ S' => exact po.elim
      | ct δ S' => exact po.elim
      | exc x δ S' => exact fun c od σ' w' H' e r _ hx => po c od w' H' e r hx
  refine wpAny_mono (bv.pss.run [] s1 (L2.start N vs) G _ inv ⟨_, S, wd, rep, start_env hds, hA⟩) (fun fl s' h => ?_) fun e s' h => h
  have fin : ∀ {σ' : L2.St} {H' : Hp} {v : V} {u : Value}, Inv (cxOf (L2.CX P w) P w K mg base N qual scope f cdv B outer st G E) [] σ' H' s' → RelV v u → Q v H' → CE outer P w G st Q u s' := fun {_ H' v _} J rv' q => ⟨v, H', J.os, J.bare, J.base, J.hok, rv', q⟩
  cases fl with
  | ret u =>
    obtain ⟨v, σ', H', J, rv', q⟩ := h
    exact fin J rv' q
  | next =>
    obtain ⟨σ', H', J, q⟩ := h
    exact fin (v := V.non) (u := Value.none) J rfl q
  | brk =>
    obtain ⟨_, _, _, q⟩ := h
    exact q.elim
  | cont =>
    obtain ⟨_, _, _, q⟩ := h
    exact q.elim
end

/-! ### calls -/
section
variable {X : Cx} {W : WX} {pos : Pos} {k : Nat} {f : Addr} {fd : FuncData} {ps : List Str} {F : Fn} {ds0 : List D} {dvs : List V} {us0 : List Value} {x : Str} {p : Pos} {e : Expr} {es : List Expr} {A : DA}
/-- what lies ready for calls in a body -/
structure Rdy (X : Cx) (W : WX) (k : Nat) : Prop where
  tk : Takes X W
  gd : X.A.guards = some []
  rm : Room k X.A
theorem run_g {pins : List (Addr × Obj)} {σ : L2.St} {H : Hp} {s : Shared} {Q : VK} {args : Args} {us : List Value} {vs : List V} {R : D → Sto → Wd → Hp → Prop} (g : GnOk X.prog X.w X.K X.mg X.base k f fd ps F) (hr : Rdy X W k) (I : Inv X pins σ H s) (hb : BindsTo s fd args (ps.zip us)) (hv : Vals vs us)
    {ds : List D} {S : Sto} {w : Wd} (hl : ds.length = ps.length) (r : Rep X.K S w H) (hd : Dats X.K w ds vs) (po : Po X.K W σ w (F ds S) (Got X.K Q)) :
    codeAny (model X.prog X.w) X.A (.call (.ref f) args) (fun r s' => match r with | .ok (.ret u) => EP X pins σ Q u s' | .ok _ => False | .error e => X.xe e s') s := by
  have po' : PoF X.K w (F ds S) Q (fun c d H => W c d σ H) := by
    cases q : F ds S with
    | none => rw [q] at po; exact po.elim
    | some o =>
      rw [q] at po
      cases o with
      | ok d S' => exact fun v w' H' e r hv => po w' H' e r v hv
      | exc x S' => exact po
  refine codeAny_mono (g.run X.A X.stack s H args us vs Q (fun c d H => W c d σ H) hr.rm hr.gd I.env0 hb hv ⟨ds, S, w, hl, r, hd, po'⟩) fun rr s' hq => ?_
  cases rr with
  | error e => exact hr.tk e s' (XE.of_call I (fun _ _ _ h => h) hq)
  | ok fl =>
    cases fl with
    | ret u => exact I.after hq
    | next => exact False.elim hq
    | brk => exact False.elim hq
    | cont => exact False.elim hq
/-- what a call with these written values comes to: defaults behind -/
def dCall (F : Fn) (n : Nat) (ds0 : List D) (A : DA) : DE := fun δ S => bnd (A δ S) fun xs S1 => if (xs ++ ds0).length = n then F (xs ++ ds0) S1 else none
theorem ev_call (g : GnOk X.prog X.w X.K X.mg X.base k f fd ps F) (hr : Rdy X W k) (hg : Gl X x) (hm : X.mg x = some (.ref f)) (hk : PySem.W.keepIn X.K (.ref f) = true) (hb : Binds X.K fd ps us0) (hd : Vals dvs us0) (hd0 : ∀ w, Dats X.K w ds0 dvs)
    (ha : Av X W (e :: es) A) (hdb : (x == ("__debug__" : Str)) = false := by decide) (he : starEach (e :: es) X.env = (false, eval e X.env) :: starEach es X.env := by rfl) (hpl : (backTo pos (starEach es X.env)).any (·.1) = false := by rfl) :
    Ev X W (.Call (.Name x p) (e :: es) [] pos) (dCall F ps.length ds0 A) := ⟨⟨fun pins s σ H Q I ⟨δ, S, w, r, he', q⟩ => by
  refine wpAny_Call_Name_kw (ld_glob I hg hm ?_ hdb)
  refine PySem.W.callWith_K (h₀ := X.base) I.ok.mod.kin hk (thn (ha.pa.run pos pins s σ H (fun vs H1 => ∃ xs S1 w1, Rep X.K S1 w1 H1 ∧ Dats X.K w1 xs vs ∧ Po X.K W σ w1 (if (xs ++ ds0).length = ps.length then F (xs ++ ds0) S1 else none) (Got X.K Q)) I
    ⟨δ, S, w, r, he', q.bnd.mono fun xs S1 w1 H1 e1 r1 p1 vs hvs => ⟨xs, S1, w1, r1, hvs, p1⟩⟩) fun us s1 ⟨vs, H1, I1, rv, xs, S1, w1, r1, hvs, p1⟩ => ⟨I1.kIn, ?_⟩) he hpl
  by_cases hl : (xs ++ ds0).length = ps.length
  · rw [if_pos hl] at p1
    have rv2 : Vals (vs ++ dvs) (us ++ us0) := rv.append hd
    have hd2 : Dats X.K w1 (xs ++ ds0) (vs ++ dvs) := hvs.append (hd0 w1)
    have hl2 : (us ++ us0).length = ps.length := by rw [← rv2.length, hd2.len]; exact hl
    refine wpAny_call (codeAny_mono (run_g (R := Got X.K Q) g hr I1 (hb s1 us I1.kIn hl2) rv2 hl r1 hd2 p1) fun rr s' hq => ?_)
    cases rr with
    | error e => exact hq
    | ok fl =>
      cases fl with
      | ret u => exact hq
      | _ => exact False.elim hq
  · rw [if_neg hl] at p1
    exact p1.elim⟩⟩
end

/-! ### the law's own call -/
/-- the world that knows a script -/
theorem law_g {P : Program} {w : World} {K : PySem.W.Frag} {mg mb : Str → Option Value} {k : Nat} {fa a : Addr} {fd : FuncData} {x : Str} {F : Fn} {s1 : Shared} {vs : List Value} {ns : List Int}
    (kin : K.In s1.heap) (hns : s1.heap.Ns mainGlobals mg) (hb : s1.heap.Ns builtinsNs mb) (hbb : ∀ x : Str, x ≠ "__name__" → mb x = bootBuiltins x) (lim : s1.heap.NoLimit) (gen : s1.gens = #[])
    (ha : s1.heap.get? a = some { cls := .type "list", data := .seq vs.toArray }) (hi : IntsAre vs ns) (hl : ns.length ≤ sizeLine) (hr : Room k callerA)
    (g : ∀ base : Heap, K.In base → base.Ns mainGlobals mg → GnOk P w K mg base k fa fd [x] F) (hbind : ∀ (s : Shared) (u : Value), BindsTo s fd ⟨[u], []⟩ [(x, u)])
    (hF : ∃ S', F [.scr (ns.map D.int)] [] = some (.ok (.bl true) S')) :
    codeAny (model P w) callerA (.call (.ref fa) ⟨[.ref a], []⟩) (fun r s' => r = .ok (.ret (.bool true)) ∧ OldK s1.heap s'.heap ∧ s'.os = s1.os ∧ AllBare s'.gens) s1 := by
  have core : ∀ G : Hp, (G = (fun _ => none) ∨ (G = upd (fun _ => none) a (.frz { cls := .type "list", data := .seq vs.toArray } (.lst (ns.map V.int))) ∧ K.lookup a = none)) → SqL K G a (ns.map V.int) → HOk P w G s1.heap →
      codeAny (model P w) callerA (.call (.ref fa) ⟨[.ref a], []⟩) (fun r s' => r = .ok (.ret (.bool true)) ∧ OldK s1.heap s'.heap ∧ s'.os = s1.os ∧ AllBare s'.gens) s1 := by
    intro G hG sq hok
    have cases_ : ∀ b o, G b = some o → b = a ∧ K.lookup a = none ∧ o = .frz { cls := .type "list", data := .seq vs.toArray } (.lst (ns.map V.int)) := fun b o e => by
      rcases hG with z | ⟨z, kz⟩
      · rw [z] at e; cases e
      · rw [z] at e
        by_cases hb : b = a
        · subst hb
          rw [upd_same] at e
          exact ⟨rfl, kz, (Option.some.inj e).symm⟩
        · rw [upd_ne hb] at e
          cases e
    have keep : ∀ {b : Addr} {o : Obj}, s1.heap.get? b = some o → G b = none → (hidT s1.heap G).get? b = some o := fun e n => hidT_get e n
    have dictFree : ∀ {b : Addr} {o : Obj} {es : Array DictEntry} {ep : Nat}, s1.heap.get? b = some o → o.data = .dict es ep → G b = none := fun {b o es ep} e dd => by
      cases q : G b with
      | none => rfl
      | some u =>
        obtain ⟨hb, _, _⟩ := cases_ b u q
        rw [hb, ha] at e
        cases e
        cases dd
    have nsK : ∀ {b : Addr} {m : Str → Option Value}, s1.heap.Ns b m → (hidT s1.heap G).Ns b m := fun {b m} ⟨o, es, ep, e, dd, r⟩ => ⟨o, es, ep, keep e (dictFree e dd), dd, r⟩
    have kinb : K.In (hidT s1.heap G) := fun b o e => keep (kin b o e) (by
      cases q : G b with
      | none => rfl
      | some u =>
        obtain ⟨hb, kz, _⟩ := cases_ b u q
        rw [hb, kz] at e
        cases e)
    have md : Mod K mg (hidT s1.heap G) := ⟨kinb, nsK hns, ⟨mb, nsK hb, hbb⟩, lim.elim fun mc h => ⟨mc, nsK h.1, h.2⟩⟩
    have e0 : Env0 P w K mg (hidT s1.heap G) callerA [] s1 G := ⟨rfl, md, fun b o e => of_hidT e, Nat.le_of_eq (hidT_size _ _), trivial, fun b hb => (nomatch (show b ∈ ([] : List Addr) from hb)), hok, .of_eq gen⟩
    let wd : Wd := ⟨G, fun _ => 0, 0, fun _ => none⟩
    have rep : Rep K [] wd G := ⟨fun _ _ e => e, rfl, fun k o e => by simp at e, fun j k h => absurd h (Nat.not_lt_zero _), fun b o e => by cases e⟩
    have dint : ∀ l : List Int, Dats K wd (l.map D.int) (l.map V.int) := fun l => by
      induction l with
      | nil => exact Dats.nil
      | cons i l ih => exact Dats.cons (d := .int i) rfl ih
    have dat : Dats K wd [.scr (ns.map D.int)] [.ref a] := Dats.cons (d := .scr (ns.map D.int)) ⟨a, ns.map V.int, rfl, sq, dint ns⟩ Dats.nil
    refine codeAny_mono ((g _ kinb (nsK hns)).run callerA [] s1 G ⟨[.ref a], []⟩ [.ref a] [.ref a] (fun v H' => v = .bl true) (fun _ _ _ => False) hr rfl e0 (hbind s1 (.ref a)) (.cons rfl .nil) ⟨_, [], wd, rfl, rep, dat, ?_⟩) fun r s' h => ?_
    · obtain ⟨S', hF⟩ := hF
      rw [hF]
      exact fun v w' H' e r hv => hv
    · cases r with
      | error e =>
        obtain ⟨_, _, _, _, _, _, _, _, _, _, _, _, z⟩ := (show L2.CX P w [] G s1 (fun _ _ _ => False) e s' from h)
        exact z.elim
      | ok fl =>
        cases fl with
        | next => exact False.elim h
        | brk => exact False.elim h
        | cont => exact False.elim h
        | ret u =>
          obtain ⟨v, H', os, bare, un, hok', r', q⟩ := (show CE [] P w G s1 (fun v H' => v = .bl true) u s' from h)
          subst q
          obtain rfl : u = Value.bool true := r'
          refine ⟨rfl, OldK.of_keep fun b o e => ?_, os, bare⟩
          cases q : G b with
          | none => exact un.keep b o e q (fun z => nomatch (show b ∈ ([] : List Addr) from z)) (fun z => nomatch (show b ∈ ([] : List Addr) from z))
          | some u =>
            obtain ⟨_, _, rfl⟩ := cases_ b u q
            obtain ⟨e1, _⟩ := hok b _ q
            obtain ⟨e2, _⟩ := hok' b _ (un.frzs b _ _ q)
            rw [e] at e1
            cases e1
            exact e2
  have lenV := hi.length
  cases hk : K.lookup a with
  | some o =>
    have e := kin a o hk
    rw [ha] at e
    cases e
    exact core (fun _ => none) (.inl rfl) (.inr ⟨_, vs.toArray, _, hk, rfl, rfl, rfl, by rw [List.size_toArray, lenV]; exact hl, by simpa using vals_ints hi⟩) fun b u z => nomatch (show (none : Option HO) = some u from z)
  | none =>
    refine core (upd (fun _ => none) a (.frz { cls := .type "list", data := .seq vs.toArray } (.lst (ns.map V.int)))) (.inr ⟨rfl, hk⟩) (.inl (.inr ⟨_, upd_same⟩)) fun b u z => ?_
    by_cases hb : b = a
    · subst hb
      rw [upd_same] at z
      cases z
      exact ⟨ha, by rw [List.length_map]; exact hl, vs, _, vals_ints hi, ha⟩
    · rw [upd_ne hb] at z
      cases z
/-- the end of a law -/
theorem walk_g {l : PySem.W.OpenLaw} {n k : Nat} {q : Program} {loose : List Str} {XP : (Str → Option Value) → Heap → Prop} {YP : World → Heap → Prop} {d : DefRec} {x : Str} {F : Fn}
    (hn : l.most = some n) (hn2 : n ≤ sizeLine) (hdf : d.params.defaults = []) (hr : Room k callerA)
    (h : ∀ (w : World) (mg : Str → Option Value) (fa : Addr) (h : Heap), YP w h → h.Ns mainGlobals mg → mg d.name = some (.ref fa) →
      ∃ (K : PySem.W.Frag) (fd : FuncData), K.In h ∧ (∀ (s : Shared) (u : Value), BindsTo s fd ⟨[u], []⟩ [(x, u)]) ∧ ∀ base : Heap, K.In base → base.Ns mainGlobals mg → GnOk l.prog w K mg base k fa fd [x] F)
    (hF : ∀ ns : List Int, ns.length ≤ n → ∃ S', F [.scr (ns.map D.int)] [] = some (.ok (.bl true) S')) :
    PySem.W.WalkO q loose XP YP l.row.toRowW d [] (fun f vs => PySem.call f vs) := by
  refine Att.attach_call hn hdf fun w s0 s1 mg mb fa o pm cd doc a vs ns G Y ho hd hcd hmg hobj hints hlen hg => ?_
  obtain ⟨K, fd, kin, hb, g⟩ := h w mg fa _ Y G.T.g hmg
  exact law_g kin G.T.g G.T.b G.T.builtins G.T.nolimit hg hobj hints (Nat.le_trans hlen hn2) hr g hb (hF ns hlen)
end Cw

set_option maxRecDepth 100000
set_option maxHeartbeats 2000000
set_option linter.all false
/-! Operations upon plain data. -/
namespace Cw
open PySem PySem.Spec PyProof.Rows L2

section
variable {K : PySem.W.Frag} {S : Sto} {w : Wd} {H : Hp}
/-- what a list holds, be it owned or nobody's -/
def lstOf (S : Sto) : D → Option (List D)
  | .lst ds => some ds
  | .ref n => match S[n]? with
    | some (.lst ds) => some ds
    | _ => none
  | _ => none
theorem lstOf_at {d : D} {v : V} {ds : List D} (r : Rep K S w H) (hv : Dat K w d v) (h : lstOf S d = some ds) : ∃ p xs, v = .ref p ∧ H p = some (.lst xs) ∧ Dats K w ds xs := by
  cases d with
  | lst es =>
    obtain ⟨p, xs, e, h1, h2⟩ := hv
    have e' : es = ds := by simpa [lstOf] using h
    subst e'
    exact ⟨p, xs, e, r.sub _ _ h1, h2⟩
  | ref n =>
    obtain ⟨e, hn⟩ := hv
    have h0 : (match S[n]? with | some (.lst ds) => some ds | _ => none) = some ds := h
    cases q : S[n]? with
    | none => rw [q] at h0; cases h0
    | some o =>
      rw [q] at h0
      obtain ⟨_, h2⟩ := r.obs n o q
      cases o with
      | lst es =>
        have e' : es = ds := by simpa using h0
        subst e'
        obtain ⟨xs, h3, h4⟩ := h2
        exact ⟨_, xs, e, h3, h4⟩
      | _ => cases h0
  | _ => cases h
theorem new_lst' {p : Addr} {ds : List D} {xs : List V} (r : Rep K S w H) (hp : H p = none) (h : Dats K w ds xs) {Q : VK} (q : ∀ w' H' z, w.Le w' → Rep K S w' H' → Dat K w' (.lst ds) z → Q z H') : Q (.ref p) (upd H p (.lst xs)) := by
  obtain ⟨h1, h2, h3⟩ := new_lst r hp h
  exact q _ _ _ h1 h2 h3
theorem new_tup' {p : Addr} {ds : List D} {xs : List V} (r : Rep K S w H) (hp : H p = none) (h : Dats K w ds xs) {Q : VK} (q : ∀ w' H' z, w.Le w' → Rep K S w' H' → Dat K w' (.tup ds) z → Q z H') : Q (.ref p) (upd H p (.tup xs)) := by
  obtain ⟨h1, h2, h3⟩ := new_tup r hp h
  exact q _ _ _ h1 h2 h3
theorem dats_nil_iff {ds : List D} {xs : List V} (h : Dats K w ds xs) : ds = [] ↔ xs = [] := by
  cases ds with
  | nil => exact ⟨fun _ => h, fun _ => rfl⟩
  | cons d ds =>
    obtain ⟨v, vs, e, _, _⟩ := h
    subst e
    exact ⟨fun q => (nomatch q), fun q => (nomatch q)⟩
end

/-! ### + - * // % ** -/
def addV (x y : D) (S : Sto) : Option (D × Sto) := match x, y with
  | .int i, .int j => some (.int (i + j), S)
  | .str a, .str b => if a.length + b.length ≤ big then some (.str (a ++ b), S) else none
  | .tup a, .tup b => if a.length + b.length ≤ big then some (.tup (a ++ b), S) else none
  | x, y => match lstOf S x, lstOf S y with
    | some a, some b => if a.length + b.length ≤ big then some (.lst (a ++ b), S) else none
    | _, _ => none
def rAddV (K : PySem.W.Frag) : R2 := fun x y H Q => rI0 (fun i j => .int (i + j)) x y H Q ∨ (∃ i j, x = .str i ∧ y = .str j ∧ i.length + j.length ≤ sizeLine ∧ Q (.str (i ++ j)) H) ∨ rCatA K x y H Q ∨ rCat x y H Q
theorem op_addV {X : Cx} : OpR X (binaryOp .Add) (rAddV X.K) := op_add.or (op_add_str.or (op_catA.or op_cat))
theorem some_if {c : Prop} [Decidable c] {α : Type} {a b : α} (h : (if c then some a else none) = some b) : c ∧ a = b := by
  by_cases hc : c
  · rw [if_pos hc] at h
    exact ⟨hc, by simpa using h⟩
  · rw [if_neg hc] at h
    cases h
theorem cat_lst {K : PySem.W.Frag} {x y d : D} {S S' : Sto} {w : Wd} {H : Hp} {u v : V} {Q : VK} (h : (match lstOf S x, lstOf S y with
    | some a, some b => if a.length + b.length ≤ big then some (D.lst (a ++ b), S) else none
    | _, _ => none) = some (d, S')) (r : Rep K S w H) (hx : Dat K w x u) (hy : Dat K w y v) (q : ∀ w' H' z, w.Le w' → Rep K S' w' H' → Dat K w' d z → Q z H') : rCat u v H Q := by
  cases ha : lstOf S x with
  | none => rw [ha] at h; cases h
  | some a =>
    cases hb : lstOf S y with
    | none => rw [ha, hb] at h; cases h
    | some b =>
      rw [ha, hb] at h
      obtain ⟨hl, e⟩ := some_if (show (if a.length + b.length ≤ big then some (D.lst (a ++ b), S) else none) = some (d, S') from h)
      cases e
      obtain ⟨p, xs, e1, h1, h2⟩ := lstOf_at r hx ha
      obtain ⟨p2, ys, e3, h3, h4⟩ := lstOf_at r hy hb
      exact ⟨p, p2, xs, ys, e1, e3, h1, h3, big_line (by rw [h2.len, h4.len]; exact hl), fun z hz => new_lst' r hz (h2.append h4) q⟩
theorem opd_add {K : PySem.W.Frag} : OpD K (rAddV K) addV := fun x y d S S' w H u v Q h r hx hy q => by
  unfold addV at h
  split at h
  · cases h
    exact .inl ⟨_, _, hx, hy, q w H _ Wd.Le.rfl r rfl⟩
  · obtain ⟨hl, e⟩ := some_if h
    cases e
    exact .inr (.inl ⟨_, _, hx, hy, big_line hl, q w H _ Wd.Le.rfl r rfl⟩)
  · rename_i a b
    obtain ⟨hl, e⟩ := some_if h
    cases e
    obtain ⟨p, xs, e1, h1, h2⟩ := hx
    obtain ⟨p2, ys, e3, h3, h4⟩ := hy
    subst e1 e3
    refine .inr (.inr (.inl ⟨p, p2, xs, ys, rfl, rfl, r.sqT h1, r.sqT h3, big_line (by rw [h2.len, h4.len]; exact hl), fun z => ?_, fun _ z => ?_, fun _ _ z hz => new_tup' r hz (h2.append h4) q⟩))
    · have ea := (dats_nil_iff h2).mpr z
      subst ea
      exact q w H _ Wd.Le.rfl r ⟨p2, ys, rfl, h3, h4⟩
    · have eb := (dats_nil_iff h4).mpr z
      subst eb
      rw [List.append_nil] at q
      exact q w H _ Wd.Le.rfl r ⟨p, xs, rfl, h1, h2⟩
  · exact .inr (.inr (.inr (cat_lst h r hx hy q)))
def subV (x y : D) (S : Sto) : Option (D × Sto) := match x, y with
  | .int i, .int j => some (.int (i - j), S)
  | _, _ => none
theorem opd_sub {K : PySem.W.Frag} : OpD K (rI0 fun i j => .int (i - j)) subV := fun x y d S S' w H u v Q h r hx hy q => by
  unfold subV at h
  split at h
  · cases h
    exact ⟨_, _, hx, hy, q w H _ Wd.Le.rfl r rfl⟩
  · cases h
def midI (i : Int) : Prop := -(2 ^ 64) < i ∧ i < 2 ^ 64
instance (i : Int) : Decidable (midI i) := inferInstanceAs (Decidable (_ ∧ _))
def mulV (x y : D) (S : Sto) : Option (D × Sto) := match x, y with
  | .int i, .int j => if midI i ∨ midI j then some (.int (i * j), S) else none
  | x, .int k => match lstOf S x with
    | some a => if isSmall k ∧ a.length * k.toNat ≤ big then some (.lst (List.replicate k.toNat a).flatten, S) else none
    | none => none
  | _, _ => none
def rMulV : R2 := fun x y H Q => rI CMul (fun i j => .int (i * j)) x y H Q ∨ rRep x y H Q
theorem op_mulV {X : Cx} : OpR X (binaryOp .Mult) rMulV := op_mul.or op_rep
theorem Dats.rep {K : PySem.W.Frag} {w : Wd} {ds : List D} {vs : List V} (h : Dats K w ds vs) : ∀ n : Nat, Dats K w (List.replicate n ds).flatten (List.replicate n vs).flatten
  | 0 => by
    rw [List.replicate_zero, List.replicate_zero]
    exact Dats.nil
  | n + 1 => by
    rw [List.replicate_succ, List.replicate_succ, List.flatten_cons, List.flatten_cons]
    exact h.append (Dats.rep h n)
theorem opd_mul {K : PySem.W.Frag} : OpD K rMulV mulV := fun x y d S S' w H u v Q h r hx hy q => by
  unfold mulV at h
  split at h
  · obtain ⟨hl, e⟩ := some_if h
    cases e
    exact .inl ⟨_, _, hx, hy, hl, q w H _ Wd.Le.rfl r rfl⟩
  · rename_i k _
    cases ha : lstOf S x with
    | none => rw [ha] at h; cases h
    | some a =>
      rw [ha] at h
      obtain ⟨hl, e⟩ := some_if (show (if isSmall k ∧ a.length * k.toNat ≤ big then some (D.lst (List.replicate k.toNat a).flatten, S) else none) = some (d, S') from h)
      cases e
      obtain ⟨p, xs, e1, h1, h2⟩ := lstOf_at r hx ha
      have h5 := hl.1.1
      have h6 := hl.1.2
      exact .inr ⟨p, k, xs, e1, hy, h1, by omega, by omega, big_line (by rw [h2.len]; exact hl.2), fun z hz => new_lst' r hz (h2.rep _) q⟩
  · cases h
def divV (x y : D) (S : Sto) : Option (D × Sto) := match x, y with
  | .int i, .int j => if 0 < j ∧ j < 1073741824 then some (.int (i / j), S) else none
  | _, _ => none
theorem opd_div {K : PySem.W.Frag} : OpD K (rI CDiv fun i j => .int (i / j)) divV := fun x y d S S' w H u v Q h r hx hy q => by
  unfold divV at h
  split at h
  · obtain ⟨hl, e⟩ := some_if h
    cases e
    exact ⟨_, _, hx, hy, hl, q w H _ Wd.Le.rfl r rfl⟩
  · cases h
def modV (x y : D) (S : Sto) : Option (D × Sto) := match x, y with
  | .int i, .int j => if 0 < j then some (.int (i % j), S) else none
  | _, _ => none
theorem opd_mod {K : PySem.W.Frag} : OpD K (rI (fun _ j => 0 < j) fun i j => .int (i % j)) modV := fun x y d S S' w H u v Q h r hx hy q => by
  unfold modV at h
  split at h
  · obtain ⟨hl, e⟩ := some_if h
    cases e
    exact ⟨_, _, hx, hy, hl, q w H _ Wd.Le.rfl r rfl⟩
  · cases h
def powV (x y : D) (S : Sto) : Option (D × Sto) := match x, y with
  | .int i, .int j => if 0 ≤ j ∧ j ≤ 1000000 ∧ i.natAbs < 2 ^ 64 then some (.int (i ^ j.toNat), S) else none
  | _, _ => none
theorem opd_pow {K : PySem.W.Frag} : OpD K (rI CPow fun i j => .int (i ^ j.toNat)) powV := fun x y d S S' w H u v Q h r hx hy q => by
  unfold powV at h
  split at h
  · obtain ⟨hl, e⟩ := some_if h
    cases e
    exact ⟨_, _, hx, hy, hl, q w H _ Wd.Le.rfl r rfl⟩
  · cases h
section
variable {X : Cx} {W : WX} {pos : Pos} {a b : Expr} {A B : DE}
theorem ev_add (ha : Ev X W a A) (hb : Ev X W b B) : Ev X W (.BinOp a .Add b pos) (dOp addV A B) := ev_op op_addV opd_add ha hb
theorem ev_sub (ha : Ev X W a A) (hb : Ev X W b B) : Ev X W (.BinOp a .Sub b pos) (dOp subV A B) := ev_op op_sub opd_sub ha hb
theorem ev_mul (ha : Ev X W a A) (hb : Ev X W b B) : Ev X W (.BinOp a .Mult b pos) (dOp mulV A B) := ev_op op_mulV opd_mul ha hb
theorem ev_div (ha : Ev X W a A) (hb : Ev X W b B) : Ev X W (.BinOp a .FloorDiv b pos) (dOp divV A B) := ev_op op_fdiv opd_div ha hb
theorem ev_mod (ha : Ev X W a A) (hb : Ev X W b B) : Ev X W (.BinOp a .Mod b pos) (dOp modV A B) := ev_op op_mod opd_mod ha hb
theorem ev_pow (ha : Ev X W a A) (hb : Ev X W b B) : Ev X W (.BinOp a .Pow b pos) (dOp powV A B) := ev_op op_pow opd_pow ha hb
/-- -a -/
def negV (A : DE) : DE := fun δ S => bnd (A δ S) fun x S1 => match x with
  | .int i => some (.ok (.int (-i)) S1)
  | _ => none
theorem ev_neg (ha : Ev X W a A) : Ev X W (.UnaryOp .USub a pos) (negV A) :=
  ⟨pe_imp (pe_un un_neg ha.pe) fun σ H Q ⟨δ, S, w, r, he, p⟩ => ⟨δ, S, w, r, he, p.bnd.mono fun x S1 w1 H1 e1 r1 p1 v hv => by
    cases x with
    | int i => exact ⟨i, hv, p1 w1 H1 Wd.Le.rfl r1 _ rfl⟩
    | _ => exact p1.elim⟩⟩
end

/-! ### == != < <= > >= is in -/
mutual
/-- data without owned things, as the library knows it -/
def py : D → Option PyData
  | .non => some .none
  | .bl b => some (.bool b)
  | .int i => some (.int i)
  | .str s => some (.str s)
  | .tup ds => (pys ds).map .tuple
  | .lst ds => (pys ds).map .list
  | _ => none
def pys : List D → Option (List PyData)
  | [] => some []
  | d :: ds => match py d, pys ds with
    | some x, some xs => some (x :: xs)
    | _, _ => none
end
theorem dp_sub {K : PySem.W.Frag} {w : Wd} {H : Hp} (sub : ∀ b o, w.H b = some o → H b = some o) {p : Addr} {xs : List V} (h : SqT K w.H p xs) : SqT K H p xs := by
  rcases h with (h | ⟨o, h⟩) | h
  · exact .inl (.inl (sub _ _ h))
  · exact .inl (.inr ⟨o, sub _ _ h⟩)
  · exact .inr h
mutual
theorem py_dp {K : PySem.W.Frag} {w : Wd} {H : Hp} (sub : ∀ b o, w.H b = some o → H b = some o) : ∀ {d : D} {v : V} {x : PyData}, Dat K w d v → py d = some x → Dp K H v x
  | .non, _, x, h, e => by cases e; rw [show _ = V.non from h]; exact .non
  | .bl b, _, x, h, e => by cases e; rw [show _ = V.bl b from h]; exact .bl b
  | .int i, _, x, h, e => by cases e; rw [show _ = V.int i from h]; exact .int i
  | .str s, _, x, h, e => by cases e; rw [show _ = V.str s from h]; exact .str s
  | .tup ds, _, x, ⟨p, xs, h1, h2, h3⟩, e => by
    obtain ⟨ys, h4, h5⟩ := Option.map_eq_some_iff.mp (show (pys ds).map PyData.tuple = some x from e)
    subst h5 h1
    exact .tup (dp_sub sub h2) (pys_dp sub h3 h4)
  | .lst ds, _, x, ⟨p, xs, h1, h2, h3⟩, e => by
    obtain ⟨ys, h4, h5⟩ := Option.map_eq_some_iff.mp (show (pys ds).map PyData.list = some x from e)
    subst h5 h1
    exact .lst (SqL.of (sub _ _ h2)) (pys_dp sub h3 h4)
  | .scr _, _, x, _, e => by cases e
  | .ref _, _, x, _, e => by cases e
  | .fn _, _, x, _, e => by cases e
  | .ty _, _, x, _, e => by cases e
theorem pys_dp {K : PySem.W.Frag} {w : Wd} {H : Hp} (sub : ∀ b o, w.H b = some o → H b = some o) : ∀ {ds : List D} {vs : List V} {xs : List PyData}, Dats K w ds vs → pys ds = some xs → DpAll K H vs xs
  | [], _, xs, h, e => by
    cases e
    rw [show _ = [] from h]
    exact .nil
  | d :: ds, _, xs, ⟨v, vs, h1, h2, h3⟩, e => by
    have e' : (match py d, pys ds with | some x, some xs => some (x :: xs) | _, _ => none) = some xs := e
    cases q1 : py d with
    | none => rw [q1] at e'; cases e'
    | some y =>
      cases q2 : pys ds with
      | none => rw [q1, q2] at e'; cases e'
      | some ys =>
        rw [q1, q2] at e'
        cases e'
        subst h1
        exact .cons (py_dp sub h2 q1) (pys_dp sub h3 q2)
end
/-- data, an owned list at the top allowed -/
def pyS (S : Sto) : D → Option PyData
  | .ref n => match lstOf S (.ref n) with
    | some ds => (pys ds).map .list
    | none => none
  | d => py d
theorem pyS_dp {K : PySem.W.Frag} {S : Sto} {w : Wd} {H : Hp} (r : Rep K S w H) {d : D} {v : V} {x : PyData} (h : Dat K w d v) (e : pyS S d = some x) : Dp K H v x := by
  cases d with
  | ref n =>
    have e' : (match lstOf S (.ref n) with | some ds => (pys ds).map PyData.list | none => none) = some x := e
    cases q : lstOf S (.ref n) with
    | none => rw [q] at e'; cases e'
    | some ds =>
      rw [q] at e'
      obtain ⟨ys, h4, h5⟩ := Option.map_eq_some_iff.mp e'
      subst h5
      obtain ⟨p, xs, e1, h1, h2⟩ := lstOf_at r h q
      subst e1
      exact .lst (SqL.of h1) (pys_dp r.sub h2 h4)
  | _ => exact py_dp r.sub h e
/-- == of plain scalars -/
def eqs : D → D → Option Bool
  | .int i, .int j => some (decide (i = j))
  | .str a, .str b => some (decide (a = b))
  | .bl a, .bl b => some (decide (a = b))
  | .non, .non => some true
  | .non, .int _ => some false
  | .int _, .non => some false
  | .non, .bl _ => some false
  | .bl _, .non => some false
  | .non, .str _ => some false
  | .str _, .non => some false
  | .int _, .str _ => some false
  | .str _, .int _ => some false
  | .bl _, .str _ => some false
  | .str _, .bl _ => some false
  | _, _ => none
theorem eqs_ok {K : PySem.W.Frag} {w : Wd} {x y : D} {u v : V} {b : Bool} (hx : Dat K w x u) (hy : Dat K w y v) (e : eqs x y = some b) : scal u v = true ∧ decide (u = v) = b := by
  unfold eqs at e
  split at e <;> cases e <;> (rw [show u = _ from hx, show v = _ from hy]; refine ⟨rfl, ?_⟩; simp)
/-- == of data -/
def eqvV (S : Sto) (x y : D) : Option Bool := match eqs x y with
  | some b => some b
  | none => match pyS S x, pyS S y with
    | some d, some e => if SeqAt.shaped d = true ∧ SeqAt.shaped e = true then some (PyData.eqv d e) else none
    | _, _ => none
def eqV' (x y : D) (S : Sto) : Option (D × Sto) := (eqvV S x y).map fun b => (.bl b, S)
def neV' (x y : D) (S : Sto) : Option (D × Sto) := (eqvV S x y).map fun b => (.bl (!b), S)
theorem eqvV_dp {K : PySem.W.Frag} {S : Sto} {w : Wd} {H : Hp} (r : Rep K S w H) {x y : D} {u v : V} {b : Bool} (hx : Dat K w x u) (hy : Dat K w y v) (e : eqvV S x y = some b) :
    (scal u v = true ∧ decide (u = v) = b) ∨ ∃ d e, Dp K H u d ∧ Dp K H v e ∧ SeqAt.shaped d = true ∧ SeqAt.shaped e = true ∧ PyData.eqv d e = b := by
  unfold eqvV at e
  split at e
  · rename_i c q
    cases e
    exact .inl (eqs_ok hx hy q)
  · cases q1 : pyS S x with
    | none => rw [q1] at e; cases e
    | some d =>
      cases q2 : pyS S y with
      | none => rw [q1, q2] at e; cases e
      | some d2 =>
        rw [q1, q2] at e
        obtain ⟨hs, e2⟩ := some_if (show (if SeqAt.shaped d = true ∧ SeqAt.shaped d2 = true then some (PyData.eqv d d2) else none) = some b from e)
        exact .inr ⟨d, d2, pyS_dp r hx q1, pyS_dp r hy q2, hs.1, hs.2, e2⟩
def rEqV (K : PySem.W.Frag) : R2 := fun x y H Q => rEq x y H Q ∨ rEqD K x y H Q
def rNeV (K : PySem.W.Frag) : R2 := fun x y H Q => rNe x y H Q ∨ rNeD K x y H Q
theorem op_eqV {X : Cx} (hu : X.A.units + 64 < cLine) : OpR X (compareOp .Eq) (rEqV X.K) := op_eq.or (op_eqD hu)
theorem op_neV {X : Cx} (hu : X.A.units + 64 < cLine) : OpR X (compareOp .NotEq) (rNeV X.K) := op_ne.or (op_neD hu)
theorem opd_eq {K : PySem.W.Frag} : OpD K (rEqV K) eqV' := fun x y d S S' w H u v Q h r hx hy q => by
  obtain ⟨b, h1, h2⟩ := Option.map_eq_some_iff.mp h
  cases h2
  rcases eqvV_dp r hx hy h1 with ⟨h3, h4⟩ | ⟨d, e, h3, h4, h5, h6, h7⟩
  · exact .inl ⟨h3, by rw [h4]; exact q w H _ Wd.Le.rfl r rfl⟩
  · exact .inr ⟨d, e, h3, h4, h5, h6, by rw [h7]; exact q w H _ Wd.Le.rfl r rfl⟩
theorem opd_ne {K : PySem.W.Frag} : OpD K (rNeV K) neV' := fun x y d S S' w H u v Q h r hx hy q => by
  obtain ⟨b, h1, h2⟩ := Option.map_eq_some_iff.mp h
  cases h2
  rcases eqvV_dp r hx hy h1 with ⟨h3, h4⟩ | ⟨d, e, h3, h4, h5, h6, h7⟩
  · exact .inl ⟨h3, by rw [h4]; exact q w H _ Wd.Le.rfl r rfl⟩
  · exact .inr ⟨d, e, h3, h4, h5, h6, by rw [h7]; exact q w H _ Wd.Le.rfl r rfl⟩
def ltV (x y : D) (S : Sto) : Option (D × Sto) := match x, y with
  | .int i, .int j => some (.bl (decide (i < j)), S)
  | _, _ => none
def leV (x y : D) (S : Sto) : Option (D × Sto) := match x, y with
  | .int i, .int j => some (.bl (decide (i ≤ j)), S)
  | _, _ => none
def gtV (x y : D) (S : Sto) : Option (D × Sto) := match x, y with
  | .int i, .int j => some (.bl (decide (j < i)), S)
  | _, _ => none
def geV (x y : D) (S : Sto) : Option (D × Sto) := match x, y with
  | .int i, .int j => some (.bl (decide (j ≤ i)), S)
  | _, _ => none
theorem opd_lt {K : PySem.W.Frag} : OpD K (rI0 fun i j => .bl (decide (i < j))) ltV := fun x y d S S' w H u v Q h r hx hy q => by
  unfold ltV at h
  split at h
  · cases h
    exact ⟨_, _, hx, hy, q w H _ Wd.Le.rfl r rfl⟩
  · cases h
theorem opd_le {K : PySem.W.Frag} : OpD K (rI0 fun i j => .bl (decide (i ≤ j))) leV := fun x y d S S' w H u v Q h r hx hy q => by
  unfold leV at h
  split at h
  · cases h
    exact ⟨_, _, hx, hy, q w H _ Wd.Le.rfl r rfl⟩
  · cases h
theorem opd_gt {K : PySem.W.Frag} : OpD K (rI0 fun i j => .bl (decide (j < i))) gtV := fun x y d S S' w H u v Q h r hx hy q => by
  unfold gtV at h
  split at h
  · cases h
    exact ⟨_, _, hx, hy, q w H _ Wd.Le.rfl r rfl⟩
  · cases h
theorem opd_ge {K : PySem.W.Frag} : OpD K (rI0 fun i j => .bl (decide (j ≤ i))) geV := fun x y d S S' w H u v Q h r hx hy q => by
  unfold geV at h
  split at h
  · cases h
    exact ⟨_, _, hx, hy, q w H _ Wd.Le.rfl r rfl⟩
  · cases h
/-- x is None -/
def isNon : D → Bool
  | .non => true
  | _ => false
theorem isNon_ok {K : PySem.W.Frag} {w : Wd} {x : D} {u : V} (h : Dat K w x u) : decide (u = V.non) = isNon x := by
  cases x with
  | non => rw [show u = .non from h]; rfl
  | bl b => rw [show u = .bl b from h]; rfl
  | int b => rw [show u = .int b from h]; rfl
  | str b => rw [show u = .str b from h]; rfl
  | tup ds =>
    obtain ⟨p, xs, e, _⟩ := h
    rw [e]
    rfl
  | lst ds =>
    obtain ⟨p, xs, e, _⟩ := h
    rw [e]
    rfl
  | scr ds =>
    obtain ⟨p, xs, e, _⟩ := h
    rw [e]
    rfl
  | ref n =>
    obtain ⟨e, _⟩ := h
    rw [e]
    rfl
  | fn x => rw [show u = .ref _ from h]; rfl
  | ty n => rw [show u = .ty n from h]; rfl
/-- is of truths: x is True -/
def rIsV : R2 := fun x y H Q => (y = .non ∧ Q (.bl (decide (x = .non))) H) ∨ rIsB x y H Q
def rIsNotV : R2 := fun x y H Q => (y = .non ∧ Q (.bl (!decide (x = .non))) H) ∨ rNotB x y H Q
def isV2 (x y : D) (S : Sto) : Option (D × Sto) := match x, y with
  | x, .non => some (.bl (isNon x), S)
  | .bl a, .bl b => some (.bl (decide (a = b)), S)
  | _, _ => none
def isNotV2 (x y : D) (S : Sto) : Option (D × Sto) := match x, y with
  | x, .non => some (.bl (!isNon x), S)
  | .bl a, .bl b => some (.bl (!decide (a = b)), S)
  | _, _ => none
theorem opd_is {K : PySem.W.Frag} : OpD K rIsV isV2 := fun x y d S S' w H u v Q h r hx hy q => by
  unfold isV2 at h
  split at h
  · cases h
    exact .inl ⟨hy, by rw [isNon_ok hx]; exact q w H _ Wd.Le.rfl r rfl⟩
  · cases h
    exact .inr ⟨_, _, hx, hy, q w H _ Wd.Le.rfl r rfl⟩
  · cases h
theorem opd_isNot {K : PySem.W.Frag} : OpD K rIsNotV isNotV2 := fun x y d S S' w H u v Q h r hx hy q => by
  unfold isNotV2 at h
  split at h
  · cases h
    exact .inl ⟨hy, by rw [isNon_ok hx]; exact q w H _ Wd.Le.rfl r rfl⟩
  · cases h
    exact .inr ⟨_, _, hx, hy, q w H _ Wd.Le.rfl r rfl⟩
  · cases h
theorem op_isV {X : Cx} : OpR X (compareOp .Is) rIsV := op_isN.or op_isBl
theorem op_isNotV {X : Cx} : OpR X (compareOp .IsNot) rIsNotV := op_notN.or op_notBl
end Cw

set_option maxRecDepth 100000
set_option maxHeartbeats 2000000
set_option linter.all false
/-! Containers: in, subscripts, slices, calls of built-ins, methods, dicts. -/
namespace Cw
open PySem PySem.Spec PyProof.Rows L2

/-! ### tables -/
def getA {κ : Type} [DecidableEq κ] : List (κ × D) → κ → Option D
  | [], _ => none
  | p :: ps, k => if p.1 = k then some p.2 else getA ps k
def putA {κ : Type} [DecidableEq κ] (ps : List (κ × D)) (k : κ) (d : D) : List (κ × D) :=
  if (ps.any fun p => decide (p.1 = k)) = true then ps.map (fun p => if p.1 = k then (p.1, d) else p) else ps ++ [(k, d)]
def dropA {κ : Type} [DecidableEq κ] (ps : List (κ × D)) (k : κ) : List (κ × D) := ps.filter fun p => decide (p.1 ≠ k)
section
variable {κ : Type} [DecidableEq κ] {K : PySem.W.Frag} {w : Wd} {H : Hp}
theorem DatA.get {k : κ} : ∀ {ps : List (κ × D)} {xs : List (κ × V)}, DatA K w ps xs → match getA ps k with
    | some d => ∃ v, valV xs k = some v ∧ Dat K w d v
    | none => valV xs k = none
  | [], _, h => by
    have e : _ = [] := h
    subst e
    rfl
  | p :: ps, _, ⟨v, vs, h1, h2, h3⟩ => by
    subst h1
    unfold getA
    by_cases e : p.1 = k
    · rw [if_pos e]
      exact ⟨v, valV_pos e, h2⟩
    · rw [if_neg e, valV_neg (p := (p.1, v)) e]
      exact DatA.get h3
theorem DatA.get_some {k : κ} {ps : List (κ × D)} {xs : List (κ × V)} {d : D} (h : DatA K w ps xs) (e : getA ps k = some d) : ∃ v, valV xs k = some v ∧ Dat K w d v := by
  have q := h.get (k := k)
  rw [e] at q
  exact q
theorem DatA.get_none {k : κ} {ps : List (κ × D)} {xs : List (κ × V)} (h : DatA K w ps xs) (e : getA ps k = none) : valV xs k = none := by
  have q := h.get (k := k)
  rw [e] at q
  exact q
theorem DatA.isSome {k : κ} {ps : List (κ × D)} {xs : List (κ × V)} (h : DatA K w ps xs) : (valV xs k).isSome = (getA ps k).isSome := by
  cases e : getA ps k with
  | none => rw [h.get_none e] <;> rfl
  | some d =>
    obtain ⟨v, h1, _⟩ := h.get_some e
    rw [h1] <;> rfl
theorem DatA.any {k : κ} : ∀ {ps : List (κ × D)} {xs : List (κ × V)}, DatA K w ps xs → (xs.any fun kv => decide (kv.1 = k)) = ps.any fun p => decide (p.1 = k)
  | [], _, h => by
    have e : _ = [] := h
    subst e
    rfl
  | p :: ps, _, ⟨v, vs, h1, h2, h3⟩ => by
    subst h1
    rw [List.any_cons, List.any_cons, DatA.any h3]
theorem DatA.swap {k : κ} {d : D} {v : V} (hd : Dat K w d v) : ∀ {ps : List (κ × D)} {xs : List (κ × V)}, DatA K w ps xs → DatA K w (ps.map fun p => if p.1 = k then (p.1, d) else p) (xs.map fun kv => if kv.1 = k then (kv.1, v) else kv)
  | [], _, h => by
    have e : _ = [] := h
    subst e
    exact DatA.nil
  | p :: ps, _, ⟨u, us, h1, h2, h3⟩ => by
    subst h1
    rw [List.map_cons, List.map_cons]
    by_cases e : p.1 = k
    · rw [if_pos e, if_pos (show (p.1, u).1 = k from e)]
      exact ⟨v, _, rfl, hd, DatA.swap hd h3⟩
    · rw [if_neg e, if_neg (show ¬ (p.1, u).1 = k from e)]
      exact ⟨u, _, rfl, h2, DatA.swap hd h3⟩
theorem DatA.snoc {k : κ} {d : D} {v : V} (hd : Dat K w d v) : ∀ {ps : List (κ × D)} {xs : List (κ × V)}, DatA K w ps xs → DatA K w (ps ++ [(k, d)]) (xs ++ [(k, v)])
  | [], _, h => by
    have e : _ = [] := h
    subst e
    exact ⟨v, [], rfl, hd, DatA.nil⟩
  | p :: ps, _, ⟨u, us, h1, h2, h3⟩ => by
    subst h1
    exact ⟨u, _, rfl, h2, DatA.snoc hd h3⟩
theorem DatA.put {k : κ} {d : D} {v : V} {ps : List (κ × D)} {xs : List (κ × V)} (h : DatA K w ps xs) (hd : Dat K w d v) : DatA K w (putA ps k d) (putK xs k v) := by
  unfold putA putK
  rw [h.any]
  by_cases e : (ps.any fun p => decide (p.1 = k)) = true
  · rw [if_pos e, if_pos e]
    exact h.swap hd
  · rw [if_neg e, if_neg e]
    exact h.snoc hd
theorem DatA.drop {k : κ} : ∀ {ps : List (κ × D)} {xs : List (κ × V)}, DatA K w ps xs → DatA K w (dropA ps k) (dropK xs k)
  | [], _, h => by
    have e : _ = [] := h
    subst e
    exact DatA.nil
  | p :: ps, _, ⟨u, us, h1, h2, h3⟩ => by
    subst h1
    have ih := DatA.drop (k := k) h3
    unfold dropA dropK at *
    by_cases e : p.1 = k
    · rw [List.filter_cons_of_neg (by simpa using e), List.filter_cons_of_neg (by simpa using e)]
      exact ih
    · rw [List.filter_cons_of_pos (by simpa using e), List.filter_cons_of_pos (by simpa using e)]
      exact ⟨u, _, rfl, h2, ih⟩
end
def kOf : D → Option Key
  | .int i => some (.inl i)
  | .str s => some (.inr s)
  | _ => none
theorem kOf_at {K : PySem.W.Frag} {w : Wd} {d : D} {v : V} {k : Key} (h : Dat K w d v) (e : kOf d = some k) : v = kV k := by
  cases d with
  | int i => cases e; exact h
  | str s => cases e; exact h
  | _ => cases e
/-- the owned dict -/
def dicOf (S : Sto) : D → Option (List (Key × D))
  | .ref n => match S[n]? with
    | some (.dic ks) => some ks
    | _ => none
  | _ => none
theorem dicOf_at {K : PySem.W.Frag} {S : Sto} {w : Wd} {H : Hp} {d : D} {v : V} {ks : List (Key × D)} (r : Rep K S w H) (hv : Dat K w d v) (h : dicOf S d = some ks) : ∃ p xs, v = .ref p ∧ H p = some (.dK xs) ∧ DatA K w ks xs := by
  cases d with
  | ref n =>
    obtain ⟨e, hn⟩ := hv
    have h0 : (match S[n]? with | some (.dic ks) => some ks | _ => none) = some ks := h
    cases q : S[n]? with
    | none => rw [q] at h0; cases h0
    | some o =>
      rw [q] at h0
      obtain ⟨_, h2⟩ := r.obs n o q
      cases o with
      | dic es =>
        have e' : es = ks := by simpa using h0
        subst e'
        obtain ⟨xs, h3, h4⟩ := h2
        exact ⟨_, xs, e, h3, h4⟩
      | _ => cases h0
  | _ => cases h

/-! ### in -/
def flatD : D → Bool
  | .non => true
  | .bl _ => true
  | .int _ => true
  | .str _ => true
  | _ => false
def eqF : D → D → Bool
  | .non, .non => true
  | .bl a, .bl b => a == b
  | .bl a, .int b => (if a then 1 else 0) == b
  | .int a, .bl b => a == (if b then 1 else 0)
  | .int a, .int b => a == b
  | .str a, .str b => a == b
  | _, _ => false
theorem flat_ok {K : PySem.W.Frag} {w : Wd} {d : D} {v : V} (h : Dat K w d v) (f : flatD d = true) : flatV v = true := by
  cases d with
  | non => rw [show v = _ from h]; rfl
  | bl b => rw [show v = _ from h]; rfl
  | int i => rw [show v = _ from h]; rfl
  | str s => rw [show v = _ from h]; rfl
  | _ => cases f
theorem eqF_ok {K : PySem.W.Frag} {w : Wd} {d e : D} {u v : V} (hd : Dat K w d u) (he : Dat K w e v) (fd : flatD d = true) (fe : flatD e = true) : eqV u v = eqF d e := by
  cases d <;> first | cases fd | skip
  all_goals (cases e <;> first | cases fe | skip)
  all_goals (rw [show u = _ from hd, show v = _ from he]; rfl)
def inF (x : D) (ds : List D) : Bool := ds.any fun y => eqF y x
theorem flats_ok {K : PySem.W.Frag} {w : Wd} : ∀ {ds : List D} {vs : List V}, Dats K w ds vs → ds.all flatD = true → vs.all flatV = true
  | [], _, h, _ => by
    rw [show _ = [] from h]
    rfl
  | d :: ds, _, ⟨v, vs, h1, h2, h3⟩, f => by
    subst h1
    rw [List.all_cons, Bool.and_eq_true] at f
    rw [List.all_cons, flat_ok h2 f.1, flats_ok h3 f.2]
    rfl
theorem inF_ok {K : PySem.W.Frag} {w : Wd} {x : D} {u : V} (hx : Dat K w x u) (fx : flatD x = true) : ∀ {ds : List D} {vs : List V}, Dats K w ds vs → ds.all flatD = true → inV u vs = inF x ds
  | [], _, h, _ => by
    rw [show _ = [] from h]
    rfl
  | d :: ds, _, ⟨v, vs, h1, h2, h3⟩, f => by
    subst h1
    rw [List.all_cons, Bool.and_eq_true] at f
    have ih := inF_ok hx fx h3 f.2
    unfold inV inF at *
    rw [List.any_cons, List.any_cons, ih, eqF_ok h2 hx f.1 fx]
/-- one sign -/
def oneSign (s : Str) : Option Nat := match s.cps.toList with
  | [c] => some c
  | _ => none
theorem oneSign_eq {s : Str} {c : Nat} (h : oneSign s = some c) : s = ⟨#[c]⟩ := by
  unfold oneSign at h
  split at h
  · rename_i a e
    cases h
    obtain ⟨l⟩ := s
    obtain ⟨l⟩ := l
    have e' : l = [c] := e
    subst e'
    rfl
  · cases h
/-- where something is in data: lists, tuples -/
def inDeep (S : Sto) (x : D) (ds : List D) : Option Bool := match pyS S x, pys ds with
  | some d, some es => if SeqAt.shaped d = true ∧ SeqAt.shaped (.list es) = true then some (es.any fun z => PyData.eqv z d) else none
  | _, _ => none
def inB (S : Sto) (x y : D) : Option Bool := match y with
  | .str z => match x with
    | .str s => (oneSign s).map fun c => decide (c ∈ z.cps.toList)
    | _ => none
  | y => match dicOf S y with
    | some ks => (kOf x).map fun k => (getA ks k).isSome
    | none => match items S y with
      | some ds => if flatD x = true ∧ ds.all flatD = true then some (inF x ds) else inDeep S x ds
      | none => none
def rInTD (K : PySem.W.Frag) (neg : Bool) : R2 := fun x y H Q => ∃ d ds, Dp K H x d ∧ Dp K H y (.tuple ds) ∧ SeqAt.shaped d = true ∧ SeqAt.shaped (.list ds) = true ∧ Q (.bl (if neg then !ds.any (fun z => PyData.eqv z d) else ds.any fun z => PyData.eqv z d)) H
theorem op_inTD {X : Cx} (hu : X.A.units + 65 < cLine) : OpR X (compareOp .In) (rInTD X.K false) := fun pins s σ H x y v u Q I rx ry ⟨d, ds, hd, he, sd, se, q⟩ => by
  obtain ⟨as, r1⟩ := Dp.reads I d x v hd rx
  obtain ⟨bs, r2⟩ := Dp.reads I (.tuple ds) y u he ry
  exact SeqAt.in_tuple_reads r2 r1 (SeqAt.canLay_of_shaped se) (SeqAt.canLay_of_shaped sd) (room_in_shaped sd hu) ⟨.bl _, H, I, rfl, q⟩
theorem op_notInTD {X : Cx} (hu : X.A.units + 65 < cLine) : OpR X (compareOp .NotIn) (rInTD X.K true) := fun pins s σ H x y v u Q I rx ry ⟨d, ds, hd, he, sd, se, q⟩ => by
  obtain ⟨as, r1⟩ := Dp.reads I d x v hd rx
  obtain ⟨bs, r2⟩ := Dp.reads I (.tuple ds) y u he ry
  exact SeqAt.notIn_tuple_reads r2 r1 (SeqAt.canLay_of_shaped se) (SeqAt.canLay_of_shaped sd) (room_in_shaped sd hu) ⟨.bl _, H, I, rfl, q⟩
def rInDic (neg : Bool) : R2 := fun y x H Q => ∃ a o, x = .ref a ∧ DGet H a y o ∧ Q (.bl (if neg then !o.isSome else o.isSome)) H
theorem op_inDic {X : Cx} (hu : X.A.units + 1 < cLine) : OpR X (compareOp .In) (rInDic false) := fun pins s σ H x y v u Q I rx ry ⟨a, o, e, g, q⟩ => by
  subst e
  obtain rfl : u = Value.ref a := ry
  exact d_in hu I g rx fun s3 I3 => ⟨.bl o.isSome, H, I3, rfl, q⟩
theorem op_notInDic {X : Cx} (hu : X.A.units + 1 < cLine) : OpR X (compareOp .NotIn) (rInDic true) := fun pins s σ H x y v u Q I rx ry ⟨a, o, e, g, q⟩ => by
  subst e
  obtain rfl : u = Value.ref a := ry
  exact d_notIn hu I g rx fun s3 I3 => ⟨.bl (!o.isSome), H, I3, rfl, q⟩
def rSign (neg : Bool) : R2 := fun x y H Q => ∃ (c : Nat) (z : Str), x = .str ⟨#[c]⟩ ∧ y = .str z ∧ Q (.bl (if neg then !decide (c ∈ z.cps.toList) else decide (c ∈ z.cps.toList))) H
def rInAll (K : PySem.W.Frag) (neg : Bool) : R2 := fun x y H Q => rSign neg x y H Q ∨ rInDic neg x y H Q ∨ rIn K neg x y H Q ∨ rInTD K neg x y H Q ∨ (if neg then rNotInD K x y H Q else rInD K x y H Q)
theorem op_inAll {X : Cx} (hu : X.A.units + 65 < cLine) : OpR X (compareOp .In) (rInAll X.K false) :=
  (show OpR X (compareOp .In) (rSign false) from op_in_sign).or ((op_inDic (by omega)).or (op_in_seq.or ((op_inTD hu).or (op_inD hu))))
theorem op_notInAll {X : Cx} (hu : X.A.units + 65 < cLine) : OpR X (compareOp .NotIn) (rInAll X.K true) :=
  (show OpR X (compareOp .NotIn) (rSign true) from op_notIn_sign).or ((op_notInDic (by omega)).or (op_notIn_seq.or ((op_notInTD hu).or (op_notInD hu))))
theorem in_ok {K : PySem.W.Frag} {neg : Bool} {x y : D} {S : Sto} {w : Wd} {H : Hp} {u v : V} {b : Bool} {Q : VK} (r : Rep K S w H) (hx : Dat K w x u) (hy : Dat K w y v) (h : inB S x y = some b) (q : Q (.bl (if neg then !b else b)) H) : rInAll K neg u v H Q := by
  unfold inB at h
  split at h
  · rename_i z
    split at h
    · rename_i s
      obtain ⟨c, h1, h2⟩ := Option.map_eq_some_iff.mp h
      subst h2
      exact .inl ⟨c, z, by rw [show u = .str s from hx, oneSign_eq h1], hy, q⟩
    · cases h
  · split at h
    · rename_i ks hk
      obtain ⟨k, h1, h2⟩ := Option.map_eq_some_iff.mp h
      subst h2
      obtain ⟨p, xs, e1, h3, h4⟩ := dicOf_at r hy hk
      refine .inr (.inl ⟨p, valV xs k, e1, ?_, by rw [h4.isSome]; exact q⟩)
      rw [kOf_at hx h1]
      exact DGet.k h3
    · split at h
      · rename_i ds hds
        obtain ⟨p, xs, e1, h3, h4⟩ := items_at r hy hds
        by_cases hf : flatD x = true ∧ ds.all flatD = true
        · rw [if_pos hf] at h
          cases h
          refine .inr (.inr (.inl ⟨p, xs, e1, h3, flat_ok hx hf.1, flats_ok h4 hf.2, ?_⟩))
          rw [inF_ok hx hf.1 h4 hf.2]
          exact q
        · rw [if_neg hf] at h
          unfold inDeep at h
          split at h
          · rename_i d es q1 q2
            obtain ⟨hs, e2⟩ := some_if h
            subst e2
            have h5 := pyS_dp r hx q1
            have h6 := pys_dp r.sub h4 q2
            rcases h3 with h3 | h3
            · refine .inr (.inr (.inr (.inr ?_)))
              cases neg with
              | true => exact ⟨d, es, h5, by rw [e1]; exact .lst h3 h6, hs.1, hs.2, q⟩
              | false => exact ⟨d, es, h5, by rw [e1]; exact .lst h3 h6, hs.1, hs.2, q⟩
            · exact .inr (.inr (.inr (.inl ⟨d, es, h5, by rw [e1]; exact .tup h3 h6, hs.1, hs.2, q⟩)))
          · cases h
      · cases h
def inV' (x y : D) (S : Sto) : Option (D × Sto) := (inB S x y).map fun b => (.bl b, S)
def notInV' (x y : D) (S : Sto) : Option (D × Sto) := (inB S x y).map fun b => (.bl (!b), S)
theorem opd_in {K : PySem.W.Frag} : OpD K (rInAll K false) inV' := fun x y d S S' w H u v Q h r hx hy q => by
  obtain ⟨b, h1, h2⟩ := Option.map_eq_some_iff.mp h
  cases h2
  exact in_ok r hx hy h1 (q w H _ Wd.Le.rfl r rfl)
theorem opd_notIn {K : PySem.W.Frag} : OpD K (rInAll K true) notInV' := fun x y d S S' w H u v Q h r hx hy q => by
  obtain ⟨b, h1, h2⟩ := Option.map_eq_some_iff.mp h
  cases h2
  exact in_ok r hx hy h1 (q w H _ Wd.Le.rfl r rfl)

/-! ### comparisons as values and as tests -/
section
variable {X : Cx} {W : WX} {pos : Pos} {a b c : Expr} {A B C : DE}
theorem Rdy.u65 {k : Nat} (h : Rdy X W k) : X.A.units + 65 < cLine := by have := h.rm.un; omega
theorem Rdy.u64 {k : Nat} (h : Rdy X W k) : X.A.units + 64 < cLine := by have := h.rm.un; omega
theorem Rdy.u1 {k : Nat} (h : Rdy X W k) : X.A.units + 1 < cLine := by have := h.rm.un; omega
/-- a comparison's rule with what it comes to -/
structure CmpR (X : Cx) (op : CmpOp) (g : D → D → Sto → Option (D × Sto)) : Prop where
  ex : ∃ rr, OpR X (compareOp op) rr ∧ OpD X.K rr g
variable {k : Nat}
theorem c_eq (h : Rdy X W k) : CmpR X .Eq eqV' := ⟨_, op_eqV h.u64, opd_eq⟩
theorem c_ne (h : Rdy X W k) : CmpR X .NotEq neV' := ⟨_, op_neV h.u64, opd_ne⟩
theorem c_lt (h : Rdy X W k) : CmpR X .Lt ltV := ⟨_, op_lt, opd_lt⟩
theorem c_le (h : Rdy X W k) : CmpR X .LtE leV := ⟨_, op_le, opd_le⟩
theorem c_gt (h : Rdy X W k) : CmpR X .Gt gtV := ⟨_, op_gt, opd_gt⟩
theorem c_ge (h : Rdy X W k) : CmpR X .GtE geV := ⟨_, op_ge, opd_ge⟩
theorem c_is (h : Rdy X W k) : CmpR X .Is isV2 := ⟨_, op_isV, opd_is⟩
theorem c_isNot (h : Rdy X W k) : CmpR X .IsNot isNotV2 := ⟨_, op_isNotV, opd_isNot⟩
theorem c_in (h : Rdy X W k) : CmpR X .In inV' := ⟨_, op_inAll h.u65, opd_in⟩
theorem c_notIn (h : Rdy X W k) : CmpR X .NotIn notInV' := ⟨_, op_notInAll h.u65, opd_notIn⟩
theorem ev_c {op : CmpOp} {g : D → D → Sto → Option (D × Sto)} (hr : CmpR X op g) (ha : Ev X W a A) (hb : Ev X W b B) (hm : behindInMarks op b = false := by first | exact nomark _ | with_unfolding_all rfl) : Ev X W (.Compare a [op] [b] pos) (dOp g A B) := by
  obtain ⟨rr, h1, h2⟩ := hr.ex
  exact ev_cmp h1 h2 ha hb hm
theorem tv_c {op : CmpOp} {g : D → D → Sto → Option (D × Sto)} (hr : CmpR X op g) (ha : Ev X W a A) (hb : Ev X W b B) (hm : behindInMarks op b = false := by first | exact nomark _ | with_unfolding_all rfl) : Tv X W (.Compare a [op] [b] pos) (asT (dOp g A B)) := by
  obtain ⟨rr, h1, h2⟩ := hr.ex
  exact tv_cmp h1 h2 ha hb hm
/-- a op b op2 c -/
def dChn (g g2 : D → D → Sto → Option (D × Sto)) (A B C : DE) : DE := fun δ S => bnd (A δ S) fun x S1 => bnd (B δ S1) fun y S2 => bnd (upS (g x y S2)) fun z S3 => match z with
  | .bl true => bnd (C δ S3) fun x2 S4 => upS (g2 y x2 S4)
  | .bl false => some (.ok (.bl false) S3)
  | _ => none
theorem opd_run {K : PySem.W.Frag} {σ : L2.St} {rr : R2} {g : D → D → Sto → Option (D × Sto)} {x y : D} {S : Sto} {w : Wd} {H : Hp} {u v : V} {Q : VK} (hg : OpD K rr g) (r : Rep K S w H) (hx : Dat K w x u) (hy : Dat K w y v) (p : Po K W σ w (upS (g x y S)) (Got K Q)) : rr u v H Q := by
  cases eg : g x y S with
  | none =>
    rw [eg] at p
    exact p.elim
  | some q =>
    obtain ⟨d, S3⟩ := q
    rw [eg] at p
    exact hg x y d S S3 w H u v Q eg r hx hy fun w' H' z e3 r3 hz => p w' H' e3 r3 z hz
theorem tev_chn {K : PySem.W.Frag} {rr rr2 : R2} {g g2 : D → D → Sto → Option (D × Sto)} (hg : OpD K rr g) (hg2 : OpD K rr2 g2) : ∀ σ H Q, TEv K W (dChn g g2 A B C) σ H Q → tChain rr rr2 (TEv K W A) (TEv K W B) (TEv K W C) σ H Q := fun σ H Q ⟨δ, S, w, r, he, p⟩ =>
  ⟨δ, S, w, r, he, p.bnd.mono fun x S1 w1 H1 e1 r1 p1 u hu => ⟨δ, S1, w1, r1, he.le e1, p1.bnd.mono fun y S2 w2 H2 e2 r2 p2 v hv =>
    opd_run (W := W) (σ := σ) hg r2 (hu.le e2) hv (p2.bnd.mono fun z S3 w3 H3 e3 r3 p3 t ht => by
      cases z with
      | bl b =>
        refine ⟨b, ht, ?_⟩
        cases b with
        | false => exact iteF (p3 w3 H3 Wd.Le.rfl r3 _ rfl)
        | true => exact iteT ⟨δ, S3, w3, r3, ((he.le e1).le e2).le e3, (show Po K W σ w3 (bnd (C δ S3) fun x2 S4 => upS (g2 y x2 S4)) (Got K Q) from p3).bnd.mono fun x2 S4 w4 H4 e4 r4 p4 t2 ht2 => opd_run (W := W) (σ := σ) hg2 r4 ((hv.le e3).le e4) ht2 p4⟩
      | _ => exact p3.elim)⟩⟩
theorem ev_chain {op op2 : CmpOp} {g g2 : D → D → Sto → Option (D × Sto)} (hr : CmpR X op g) (hr2 : CmpR X op2 g2) (ha : Ev X W a A) (hb : Ev X W b B) (hc : Ev X W c C) (hm : lastMarks [op, op2] [b, c] = false := by with_unfolding_all rfl) : Ev X W (.Compare a [op, op2] [b, c] pos) (dChn g g2 A B C) := by
  obtain ⟨rr, h1, h2⟩ := hr.ex
  obtain ⟨rr2, h3, h4⟩ := hr2.ex
  exact ⟨pe_imp (pe_chain h1 h3 ha.pe hb.pe hc.pe hm) (tev_chn h2 h4)⟩
theorem tv_chain {op op2 : CmpOp} {g g2 : D → D → Sto → Option (D × Sto)} (hr : CmpR X op g) (hr2 : CmpR X op2 g2) (ha : Ev X W a A) (hb : Ev X W b B) (hc : Ev X W c C) (hm : lastMarks [op, op2] [b, c] = false := by with_unfolding_all rfl) : Tv X W (.Compare a [op, op2] [b, c] pos) (asT (dChn g g2 A B C)) := by
  obtain ⟨rr, h1, h2⟩ := hr.ex
  obtain ⟨rr2, h3, h4⟩ := hr2.ex
  exact ⟨pt_imp (pt_chain h1 h3 ha.pe hb.pe hc.pe hm) (ttv_of (tev_chn h2 h4))⟩
end
end Cw

set_option maxRecDepth 100000
set_option maxHeartbeats 2000000
set_option linter.all false
/-! Subscripts, slices, stores; calls of built-ins; methods of built-in types. -/
namespace Cw
open PySem PySem.Spec PyProof.Rows L2

/-! ### o[i] -/
theorem Dats.atI {K : PySem.W.Frag} {w : Wd} {ds : List D} {vs : List V} {i : Int} {d : D} (h : Dats K w ds vs) (e : L2.atI ds i = some d) : ∃ v, L2.atI vs i = some v ∧ Dat K w d v := by
  unfold L2.atI at *
  rw [h.len]
  cases q : ixN ds.length i with
  | none => rw [q] at e; cases e
  | some j =>
    rw [q] at e
    exact h.get (show ds[j]? = some d from e)
def ixV (x y : D) (S : Sto) : Option (D × Sto) := match dicOf S x with
  | some ks => match kOf y with
    | some k => (getA ks k).map fun d => (d, S)
    | none => none
  | none => match y with
    | .int i => match x with
      | .str z => if z.length ≤ big then (L2.atI z.cps.toList i).map fun c => (.str ⟨#[c]⟩, S) else none
      | x => match items S x with
        | some ds => (L2.atI ds i).map fun d => (d, S)
        | none => none
    | _ => none
def rIxDic : R2 := fun x y H Q => ∃ a v, x = .ref a ∧ DGet H a y (some v) ∧ Q v H
theorem ix_dic {X : Cx} (hu : X.A.units + 1 < cLine) : IxR X rIxDic := fun value slice pins s σ H x y v u Q I rx ry ⟨a, z, e, g, q⟩ hs => by
  subst e
  obtain rfl : v = Value.ref a := rx
  exact tail_any (dict_typeIs I g) PySem.F.slot_dict_getitem.lookup (d_getItem hu I g ry fun w' s3 I3 rw' => ⟨z, H, I3, rw', q⟩) hs
def rIxV (K : PySem.W.Frag) : R2 := fun x y H Q => rIxDic x y H Q ∨ rIx K x y H Q
theorem ix_V {X : Cx} (hu : X.A.units + 1 < cLine) : IxR X (rIxV X.K) := (ix_dic hu).or ix_seq
theorem opd_ix {K : PySem.W.Frag} : OpD K (rIxV K) ixV := fun x y d S S' w H u v Q h r hx hy q => by
  unfold ixV at h
  split at h
  · rename_i ks hk
    split at h
    · rename_i k hkey
      obtain ⟨d', h1, h2⟩ := Option.map_eq_some_iff.mp h
      cases h2
      obtain ⟨p, xs, e1, h3, h4⟩ := dicOf_at r hx hk
      obtain ⟨z, h5, h6⟩ := h4.get_some h1
      refine .inl ⟨p, z, e1, ?_, q w H _ Wd.Le.rfl r h6⟩
      rw [kOf_at hy hkey, ← h5]
      exact DGet.k h3
    · cases h
  · split at h
    · rename_i i
      split at h
      · rename_i z _
        by_cases hz : z.length ≤ big
        · rw [if_pos hz] at h
          obtain ⟨c, h1, h2⟩ := Option.map_eq_some_iff.mp h
          cases h2
          exact .inr (.inr (.inr ⟨z, i, c, hx, hy, big_line hz, h1, q w H _ Wd.Le.rfl r rfl⟩))
        · rw [if_neg hz] at h
          cases h
      · split at h
        · rename_i ds hds
          obtain ⟨d', h1, h2⟩ := Option.map_eq_some_iff.mp h
          cases h2
          obtain ⟨p, xs, e1, h3, h4⟩ := items_at r hx hds
          obtain ⟨z, h5, h6⟩ := h4.atI h1
          rcases h3 with h3 | h3
          · exact .inr (.inl ⟨p, xs, i, z, e1, hy, h3, h5, q w H _ Wd.Le.rfl r h6⟩)
          · exact .inr (.inr (.inl ⟨p, xs, i, z, e1, hy, h3, h5, q w H _ Wd.Le.rfl r h6⟩))
        · cases h
    · cases h
section
variable {X : Cx} {W : WX} {pos : Pos} {k : Nat} {a b c e : Expr} {es : List Expr} {A B C : DE} {T : DA}
theorem ev_ix (h : Rdy X W k) (ha : Ev X W a A) (hb : Ev X W b B) (hs : PlainIx b := by intro _ _; rfl) : Ev X W (.Subscript a b pos) (dOp ixV A B) := ⟨pe_imp (pe_ix (ix_V h.u1) ha.pe hb.pe hs) (tev_op opd_ix)⟩

/-! ### slices -/
def cutD (ds : List D) (lo hi : Option Int) : List D := (ds.drop (HT.sIx ds.length 0 lo)).take (HT.sIx ds.length ds.length hi - HT.sIx ds.length 0 lo)
theorem Dats.cut {K : PySem.W.Frag} {w : Wd} {ds : List D} {vs : List V} (h : Dats K w ds vs) (lo hi : Option Int) : Dats K w (cutD ds lo hi) (cutV vs lo hi) := by
  unfold cutD cutV
  rw [h.len]
  exact (h.drop _).take _
/-- a list, be it only read -/
def lsOf (S : Sto) : D → Option (List D)
  | .scr ds => some ds
  | d => lstOf S d
theorem lsOf_at {K : PySem.W.Frag} {S : Sto} {w : Wd} {H : Hp} {d : D} {v : V} {ds : List D} (r : Rep K S w H) (hv : Dat K w d v) (h : lsOf S d = some ds) : ∃ p xs, v = .ref p ∧ SqL K H p xs ∧ Dats K w ds xs := by
  cases d with
  | scr es =>
    obtain ⟨p, xs, e, h1, h2⟩ := hv
    have e' : es = ds := by simpa [lsOf] using h
    subst e'
    exact ⟨p, xs, e, r.sqL h1, h2⟩
  | _ =>
    obtain ⟨p, xs, e, h1, h2⟩ := lstOf_at r hv h
    exact ⟨p, xs, e, SqL.of h1, h2⟩
/-- a part that may be left out -/
def oPart : Option DE → Env → Sto → Option (Out (Option Int))
  | none, _, S => some (.ok none S)
  | some A, δ, S => bnd (A δ S) fun x S1 => match x with
    | .int i => some (.ok (some i) S1)
    | _ => none
def slV (x : D) (lo hi : Option Int) (S : Sto) : Option (D × Sto) := match x with
  | .str z => if z.length ≤ big then some (.str (cutS z lo hi), S) else none
  | .tup ds => some (.tup (cutD ds lo hi), S)
  | x => match lsOf S x with
    | some ds => some (.lst (cutD ds lo hi), S)
    | none => none
def dSl (A : DE) (lo hi : Option DE) : DE := fun δ S => bnd (A δ S) fun x S1 => bnd (oPart lo δ S1) fun l S2 => bnd (oPart hi δ S2) fun u S3 => upS (slV x l u S3)
structure Ov (X : Cx) (W : WX) (e : Option Expr) (A : Option DE) : Prop where
  ex : ∃ t, PO X e t ∧ ∀ σ H Q, (∃ δ S w, Rep X.K S w H ∧ EnvOk X.K w σ δ ∧ Po X.K W σ w (oPart A δ S) (fun i _ _ H' => Q i H')) → t σ H Q
theorem ov_none : Ov X W none none := ⟨_, po_none, fun σ H Q ⟨δ, S, w, r, he, p⟩ => p w H Wd.Le.rfl r⟩
theorem ov_some (h : Ev X W e A) : Ov X W (some e) (some A) := ⟨_, po_some h.pe, fun σ H Q ⟨δ, S, w, r, he, p⟩ => ⟨δ, S, w, r, he, p.bnd.mono fun x S1 w1 H1 e1 r1 p1 v hv => by
  cases x with
  | int i => exact ⟨i, hv, p1 w1 H1 Wd.Le.rfl r1⟩
  | _ => exact p1.elim⟩⟩
def rSlV (K : PySem.W.Frag) : V → Option Int → Option Int → Hp → VK → Prop := fun x lo hi H Q => rSlL K x lo hi H Q ∨ rSlA K x lo hi H Q ∨ rSlS x lo hi H Q
theorem sl_V : SlR X (rSlV X.K) := sl_list.or (sl_tupA.or sl_str)
theorem cut_whole {ds : List D} {n : Nat} (hn : n = ds.length) {lo hi : Option Int} (h : HT.sIx n 0 lo = 0 ∧ HT.sIx n n hi = n) : cutD ds lo hi = ds := by
  subst hn
  unfold cutD
  rw [h.1, h.2, List.drop_zero, Nat.sub_zero, List.take_length]
theorem sl_ok {K : PySem.W.Frag} {x d : D} {lo hi : Option Int} {S S' : Sto} {w : Wd} {H : Hp} {u : V} {Q : VK} (h : slV x lo hi S = some (d, S')) (r : Rep K S w H) (hx : Dat K w x u) (q : ∀ w' H' z, w.Le w' → Rep K S' w' H' → Dat K w' d z → Q z H') : rSlV K u lo hi H Q := by
  unfold slV at h
  split at h
  · rename_i z
    obtain ⟨hz, e⟩ := some_if h
    cases e
    exact .inr (.inr ⟨z, hx, big_line hz, q w H _ Wd.Le.rfl r rfl⟩)
  · rename_i ds
    cases h
    obtain ⟨p, xs, e1, h1, h2⟩ := hx
    refine .inr (.inl ⟨p, xs, e1, r.sqT h1, fun hw => ?_, fun _ z hz => new_tup' r hz (h2.cut lo hi) q⟩)
    rw [cut_whole h2.len hw] at q
    exact q w H _ Wd.Le.rfl r ⟨p, xs, rfl, h1, h2⟩
  · split at h
    · rename_i ds hds
      cases h
      obtain ⟨p, xs, e1, h3, h4⟩ := lsOf_at r hx hds
      exact .inl ⟨p, xs, e1, h3, fun z hz => new_lst' r hz (h4.cut lo hi) q⟩
    · cases h
theorem ev_sl {p2 : Pos} {lo hi : Option Expr} {L U : Option DE} (ha : Ev X W a A) (hl : Ov X W lo L) (hu : Ov X W hi U) : Ev X W (.Subscript a (.Slice lo hi none p2) pos) (dSl A L U) := by
  obtain ⟨t1, h1, k1⟩ := hl.ex
  obtain ⟨t2, h2, k2⟩ := hu.ex
  refine ⟨pe_imp (pe_slice sl_V ha.pe h1 h2) fun σ H Q ⟨δ, S, w, r, he, p⟩ => ⟨δ, S, w, r, he, p.bnd.mono fun x S1 w1 H1 e1 r1 p1 u hu => ?_⟩⟩
  refine k1 σ H1 _ ⟨δ, S1, w1, r1, he.le e1, p1.bnd.mono fun l S2 w2 H2 e2 r2 p2 => ?_⟩
  refine k2 σ H2 _ ⟨δ, S2, w2, r2, (he.le e1).le e2, p2.bnd.mono fun g S3 w3 H3 e3 r3 p3 => ?_⟩
  cases eg : slV x l g S3 with
  | none =>
    rw [eg] at p3
    exact p3.elim
  | some q =>
    obtain ⟨d, S4⟩ := q
    rw [eg] at p3
    exact sl_ok eg r3 ((hu.le e2).le e3) fun w' H' z e4 r4 hz => p3 w' H' e4 r4 z hz

/-! ### stores into lists and dicts -/
def setV (x y d : D) (S : Sto) : Option Sto := match x with
  | .ref n => match S[n]? with
    | some (.lst ds) => match y with
      | .int i => (ixN ds.length i).map fun j => S.set n (.lst (ds.set j d))
      | _ => none
    | some (.dic ks) => match kOf y with
      | some k => if ks.length < big then some (S.set n (.dic (putA ks k d))) else none
      | none => none
    | _ => none
  | _ => none
def rSetV : TSet := fun o i v H Q => rSetL o i v H Q ∨ rSetD o i v H Q
theorem set_V (hu : X.A.units + 1 < cLine) : PSet X rSetV := fun pins s σ H o i v ov iv u Q I ro ri rv h => h.elim (set_list pins s σ H o i v ov iv u Q I ro ri rv) (set_dict hu pins s σ H o i v ov iv u Q I ro ri rv)
theorem set_ok {K : PySem.W.Frag} {x y d : D} {S S' : Sto} {w : Wd} {H : Hp} {u v z : V} {Q : Hp → Prop} (h : setV x y d S = some S') (r : Rep K S w H) (hx : Dat K w x u) (hy : Dat K w y v) (hd : Dat K w d z) (q : ∀ H', Rep K S' w H' → Q H') : rSetV u v z H Q := by
  unfold setV at h
  split at h
  · rename_i n
    obtain ⟨e, hn⟩ := hx
    split at h
    · rename_i ds hds
      split at h
      · rename_i i
        obtain ⟨j, h1, h2⟩ := Option.map_eq_some_iff.mp h
        cases h2
        obtain ⟨_, xs, h3, h4⟩ := r.obs n _ hds
        refine .inl ⟨_, xs, i, j, e, hy, h3, by rw [h4.len]; exact h1, q _ (r.write hn (fun b hb => upd_ne hb) ⟨_, upd_same, h4.set j hd⟩)⟩
      · cases h
    · rename_i ks hks
      split at h
      · rename_i k hk
        obtain ⟨hl, e2⟩ := some_if h
        cases e2
        obtain ⟨_, xs, h3, h4⟩ := r.obs n _ hks
        refine .inr ⟨_, _, e, ?_, q _ (r.write hn (fun b hb => upd_ne hb) ⟨_, upd_same, h4.put (k := k) hd⟩)⟩
        rw [kOf_at hy hk]
        exact DPut.k h3 (big_lt (by rw [h4.len]; exact hl))
      · cases h
    · cases h
  · cases h
/-- o[i] = e: e, then o, then i -/
def sSub (E A B : DE) : DS := fun δ S => bndS (E δ S) δ fun d S1 => bndS (A δ S1) δ fun x S2 => bndS (B δ S2) δ fun y S3 => match setV x y d S3 with
  | some S4 => some (.nx δ S4)
  | none => none
theorem sv_sub {o i : Expr} {p2 : Pos} {E : DE} (h : Rdy X W k) (he : Ev X W e E) (ho : Ev X W o A) (hi : Ev X W i B) (hs : swapsWithSole [.Subscript o i p2] e pos.line X.env = pure false := by rfl) (hw : swappedStores [.Subscript o i p2] e X.env = pure none := by rfl)
    (h1 : (assignEach [.Subscript o i p2] X.env).map (·.2) = [assign (.Subscript o i p2) X.env] := by rfl)
    (h2 : ∀ v, assign (.Subscript o i p2) X.env v = (do
      let ov ← holding [v] (eval o X.env)
      let iv ← holding [v, ov] (eval i X.env)
      standAt p2
      holding [v, ov, iv] (setItem ov iv v)
      release [v, ov, iv] []) := by intro _; rfl) : Sv X W (.Assign [.Subscript o i p2] e pos) (sSub E A B) :=
  ⟨ps_imp (ps_asg he.pe (pg_sub ho.pe hi.pe (set_V h.u1) h2) hs hw h1) fun D σ H ⟨δ, S, w, r, hE, p⟩ => ⟨δ, S, w, r, hE, (p.bnd hE).mono fun d S1 w1 H1 e1 r1 p1 z hz =>
    ⟨δ, S1, w1, r1, hE.le e1, (p1.bnd (hE.le e1)).mono fun x S2 w2 H2 e2 r2 p2 u hu => ⟨δ, S2, w2, r2, (hE.le e1).le e2, (p2.bnd ((hE.le e1).le e2)).mono fun y S3 w3 H3 e3 r3 p3 v hv => by
      cases eg : setV x y d S3 with
      | none =>
        rw [eg] at p3
        exact p3.elim
      | some S4 =>
        rw [eg] at p3
        exact set_ok eg r3 (hu.le e3) hv ((hz.le e2).le e3) fun H' r4 => p3 σ w3 H' Wd.Le.rfl r4 (((hE.le e1).le e2).le e3)⟩⟩⟩⟩

/-! ### built-ins by their values -/
def CallD (K : PySem.W.Frag) (rr : List V → Hp → VK → Prop) (g : List D → Sto → Option (D × Sto)) : Prop :=
  ∀ (xs : List D) (d : D) (S S' : Sto) (w : Wd) (H : Hp) (vs : List V) (Q : VK), g xs S = some (d, S') → Rep K S w H → Dats K w xs vs → (∀ w' H' z, w.Le w' → Rep K S' w' H' → Dat K w' d z → Q z H') → rr vs H Q
def dCB (g : List D → Sto → Option (D × Sto)) (T : DA) : DE := fun δ S => bnd (T δ S) fun xs S1 => upS (g xs S1)
theorem tev_cb {K : PySem.W.Frag} {rr : List V → Hp → VK → Prop} {g : List D → Sto → Option (D × Sto)} (hg : CallD K rr g) : ∀ σ H Q, TEv K W (dCB g T) σ H Q → tCB rr (TAv K W T) σ H Q := fun σ H Q ⟨δ, S, w, r, he, p⟩ => ⟨δ, S, w, r, he, p.bnd.mono fun xs S1 w1 H1 e1 r1 p1 vs hvs => by
  cases eg : g xs S1 with
  | none =>
    rw [eg] at p1
    exact p1.elim
  | some q =>
    obtain ⟨d, S2⟩ := q
    rw [eg] at p1
    exact hg xs d S1 S2 w1 H1 vs Q eg r1 hvs fun w' H' z e2 r2 hz => p1 w' H' e2 r2 z hz⟩
/-- a built-in's rule with what it comes to -/
structure CalR (X : Cx) (f : Value) (g : List D → Sto → Option (D × Sto)) : Prop where
  ex : ∃ rr, CallR X f rr ∧ CallD X.K rr g
theorem CalR.or {f : Value} {g g' : List D → Sto → Option (D × Sto)} (h : CalR X f g) (h' : CalR X f g') : CalR X f (fun xs S => match g xs S with | some q => some q | none => g' xs S) := by
  obtain ⟨r1, a1, b1⟩ := h.ex
  obtain ⟨r2, a2, b2⟩ := h'.ex
  refine ⟨fun xs H Q => r1 xs H Q ∨ r2 xs H Q, fun pins s σ H xs us Q I rv q => q.elim (a1 pins s σ H xs us Q I rv) (a2 pins s σ H xs us Q I rv), fun xs d S S' w H vs Q hg r hd q => ?_⟩
  cases e : g xs S with
  | none =>
    simp only [e] at hg
    exact .inr (b2 xs d S S' w H vs Q hg r hd q)
  | some z =>
    simp only [e] at hg
    exact .inl (b1 xs d S S' w H vs Q (e.trans hg) r hd q)
theorem ev_cb {x : Str} {id : String} {p : Pos} {g : List D → Sto → Option (D × Sto)} (hc : CalR X (.builtin id) g) (hg : Gl X x) (hm : X.mg x = none) (hv : bootBuiltins x = some (.builtin id)) (ha : Av X W (e :: es) T) (hn : x ≠ "__name__" := by decide) (hdb : (x == ("__debug__" : Str)) = false := by decide)
    (he : starEach (e :: es) X.env = (false, eval e X.env) :: starEach es X.env := by rfl) (hpl : (backTo pos (starEach es X.env)).any (·.1) = false := by rfl) : Ev X W (.Call (.Name x p) (e :: es) [] pos) (dCB g T) := by
  obtain ⟨rr, h1, h2⟩ := hc.ex
  exact ⟨pe_imp (pe_callB h1 hg hm hv ha.pa hn hdb he hpl) (tev_cb h2)⟩
theorem ev_cty {x : Str} {id : String} {p : Pos} {g : List D → Sto → Option (D × Sto)} (hc : CalR X (.type id) g) (hg : Gl X x) (hm : X.mg x = none) (hv : bootBuiltins x = some (.type id)) (ha : Av X W (e :: es) T) (hn : x ≠ "__name__" := by decide) (hdb : (x == ("__debug__" : Str)) = false := by decide)
    (he : starEach (e :: es) X.env = (false, eval e X.env) :: starEach es X.env := by rfl) (hpl : (backTo pos (starEach es X.env)).any (·.1) = false := by rfl) : Ev X W (.Call (.Name x p) (e :: es) [] pos) (dCB g T) := by
  obtain ⟨rr, h1, h2⟩ := hc.ex
  exact ⟨pe_imp (pe_callTy h1 hg hm hv ha.pa hn hdb he hpl) (tev_cb h2)⟩
theorem dats_one {K : PySem.W.Frag} {w : Wd} {d : D} {vs : List V} (h : Dats K w [d] vs) : ∃ v, vs = [v] ∧ Dat K w d v := by
  obtain ⟨v, r, e, h1, h2⟩ := h
  exact ⟨v, by rw [e, show r = [] from h2], h1⟩
theorem dats_two {K : PySem.W.Frag} {w : Wd} {d e : D} {vs : List V} (h : Dats K w [d, e] vs) : ∃ v u, vs = [v, u] ∧ Dat K w d v ∧ Dat K w e u := by
  obtain ⟨v, r, e, h1, h2⟩ := h
  obtain ⟨u, e2, h3⟩ := dats_one h2
  exact ⟨v, u, by rw [e, e2], h1, h3⟩
/-- one argument -/
theorem cal1 {f : Value} {rr : List V → Hp → VK → Prop} {g : D → Sto → Option (D × Sto)} (h : CallR X f rr) (k : ∀ (x d : D) (S S' : Sto) (w : Wd) (H : Hp) (v : V) (Q : VK), g x S = some (d, S') → Rep X.K S w H → Dat X.K w x v → (∀ w' H' z, w.Le w' → Rep X.K S' w' H' → Dat X.K w' d z → Q z H') → rr [v] H Q) :
    CalR X f (fun xs S => match xs with | [x] => g x S | _ => none) := ⟨rr, h, fun xs d S S' w H vs Q hg r hd q => by
  match xs, hg with
  | [x], hg =>
    obtain ⟨v, e, h1⟩ := dats_one hd
    subst e
    exact k x d S S' w H v Q hg r h1 q⟩
theorem cal2 {f : Value} {rr : List V → Hp → VK → Prop} {g : D → D → Sto → Option (D × Sto)} (h : CallR X f rr) (k : ∀ (x y d : D) (S S' : Sto) (w : Wd) (H : Hp) (v u : V) (Q : VK), g x y S = some (d, S') → Rep X.K S w H → Dat X.K w x v → Dat X.K w y u → (∀ w' H' z, w.Le w' → Rep X.K S' w' H' → Dat X.K w' d z → Q z H') → rr [v, u] H Q) :
    CalR X f (fun xs S => match xs with | [x, y] => g x y S | _ => none) := ⟨rr, h, fun xs d S S' w H vs Q hg r hd q => by
  match xs, hg with
  | [x, y], hg =>
    obtain ⟨v, u, e, h1, h2⟩ := dats_two hd
    subst e
    exact k x y d S S' w H v u Q hg r h1 h2 q⟩
def len1 (x : D) (S : Sto) : Option (D × Sto) := match x with
  | .str z => if z.length ≤ big then some (.int z.length, S) else none
  | x => (items S x).map fun ds => (.int ds.length, S)
abbrev g1 (g : D → Sto → Option (D × Sto)) : List D → Sto → Option (D × Sto) := fun xs S => match xs with | [x] => g x S | _ => none
abbrev g2 (g : D → D → Sto → Option (D × Sto)) : List D → Sto → Option (D × Sto) := fun xs S => match xs with | [x, y] => g x y S | _ => none
theorem b_len : CalR X (.builtin "len") (g1 len1) := cal1 call_len fun x d S S' w H v Q hg r hx q => by
  unfold len1 at hg
  split at hg
  · rename_i z
    obtain ⟨hz, e⟩ := some_if hg
    cases e
    refine ⟨v, z.length, rfl, ?_, q w H _ Wd.Le.rfl r rfl⟩
    rw [show v = .str z from hx]
    exact ⟨big_line hz, rfl⟩
  · obtain ⟨ds, h1, h2⟩ := Option.map_eq_some_iff.mp hg
    cases h2
    obtain ⟨p, xs, e1, h3, h4⟩ := items_at r hx h1
    subst e1
    refine ⟨_, ds.length, rfl, ?_, q w H _ Wd.Le.rfl r rfl⟩
    rcases h3 with h3 | h3
    · exact .inl ⟨xs, h3, h4.len.symm⟩
    · exact .inr ⟨xs, h3, h4.len.symm⟩
/-- the truths of a list -/
def bls : List D → Option (List Bool)
  | [] => some []
  | .bl b :: ds => (bls ds).map (b :: ·)
  | _ :: _ => none
theorem bls_ok {K : PySem.W.Frag} {w : Wd} : ∀ {ds : List D} {vs : List V} {bs : List Bool}, Dats K w ds vs → bls ds = some bs → vs = bs.map V.bl
  | [], _, bs, h, e => by
    cases e
    exact h
  | .bl b :: ds, _, bs, ⟨v, vs, h1, h2, h3⟩, e => by
    obtain ⟨cs, h4, h5⟩ := Option.map_eq_some_iff.mp (show (bls ds).map (b :: ·) = some bs from e)
    subst h5
    rw [h1, bls_ok h3 h4, show v = .bl b from h2]
    rfl
  | .non :: _, _, _, _, e => by cases e
  | .int _ :: _, _, _, _, e => by cases e
  | .str _ :: _, _, _, _, e => by cases e
  | .tup _ :: _, _, _, _, e => by cases e
  | .lst _ :: _, _, _, _, e => by cases e
  | .scr _ :: _, _, _, _, e => by cases e
  | .ref _ :: _, _, _, _, e => by cases e
  | .fn _ :: _, _, _, _, e => by cases e
  | .ty _ :: _, _, _, _, e => by cases e
def all1 (x : D) (S : Sto) : Option (D × Sto) := match lsOf S x with
  | some ds => (bls ds).map fun bs => (.bl (bs.all id), S)
  | none => none
def any1 (x : D) (S : Sto) : Option (D × Sto) := match lsOf S x with
  | some ds => (bls ds).map fun bs => (.bl (bs.any id), S)
  | none => none
theorem b_all (hc : X.calm = true := by rfl) : CalR X (.builtin "all") (g1 all1) := cal1 (cr_all hc) fun x d S S' w H v Q hg r hx q => by
  unfold all1 at hg
  split at hg
  · rename_i ds hds
    obtain ⟨bs, h1, h2⟩ := Option.map_eq_some_iff.mp hg
    cases h2
    obtain ⟨p, xs, e1, h3, h4⟩ := lsOf_at r hx hds
    subst e1
    exact ⟨p, bs, rfl, by rw [← bls_ok h4 h1]; exact h3, q w H _ Wd.Le.rfl r rfl⟩
  · cases hg
theorem b_any (hc : X.calm = true := by rfl) : CalR X (.builtin "any") (g1 any1) := cal1 (cr_any hc) fun x d S S' w H v Q hg r hx q => by
  unfold any1 at hg
  split at hg
  · rename_i ds hds
    obtain ⟨bs, h1, h2⟩ := Option.map_eq_some_iff.mp hg
    cases h2
    obtain ⟨p, xs, e1, h3, h4⟩ := lsOf_at r hx hds
    subst e1
    exact ⟨p, bs, rfl, by rw [← bls_ok h4 h1]; exact h3, q w H _ Wd.Le.rfl r rfl⟩
  · cases hg
def tuple1 (x : D) (S : Sto) : Option (D × Sto) := match x with
  | .tup ds => some (.tup ds, S)
  | x => (lsOf S x).map fun ds => (.tup ds, S)
theorem b_tuple : CalR X (.type "tuple") (g1 tuple1) := cal1 call_tuple_of fun x d S S' w H v Q hg r hx q => by
  unfold tuple1 at hg
  split at hg
  · cases hg
    have hx' := hx
    obtain ⟨p, xs, e1, h1, h2⟩ := hx
    subst e1
    exact ⟨p, xs, rfl, .inr ⟨r.sqT h1, q w H _ Wd.Le.rfl r hx'⟩⟩
  · obtain ⟨ds, h1, h2⟩ := Option.map_eq_some_iff.mp hg
    cases h2
    obtain ⟨p, xs, e1, h3, h4⟩ := lsOf_at r hx h1
    subst e1
    exact ⟨p, xs, rfl, .inl ⟨h3, fun l hl => new_tup' r hl h4 q⟩⟩
def list1 (x : D) (S : Sto) : Option (D × Sto) := (items S x).map fun ds => (.lst ds, S)
theorem b_list : CalR X (.type "list") (g1 list1) := cal1 call_list_of fun x d S S' w H v Q hg r hx q => by
  obtain ⟨ds, h1, h2⟩ := Option.map_eq_some_iff.mp hg
  cases h2
  obtain ⟨p, xs, e1, h3, h4⟩ := items_at r hx h1
  subst e1
  exact ⟨p, xs, rfl, h3, fun l hl => new_lst' r hl h4 q⟩
/-- a new list, owned -/
def list1O (x : D) (S : Sto) : Option (D × Sto) := (items S x).map fun ds => (.ref S.length, S ++ [.lst ds])
theorem own_lst' {K : PySem.W.Frag} {S : Sto} {w : Wd} {H : Hp} {p : Addr} {ds : List D} {xs : List V} (r : Rep K S w H) (hp : H p = none) (h : Dats K w ds xs) {Q : VK} (q : ∀ w' H' z, w.Le w' → Rep K (S ++ [.lst ds]) w' H' → Dat K w' (.ref S.length) z → Q z H') : Q (.ref p) (upd H p (.lst xs)) := by
  obtain ⟨h1, h2, h3⟩ := own_lst r hp h
  exact q _ _ _ h1 h2 h3
theorem b_listO : CalR X (.type "list") (g1 list1O) := cal1 call_list_of fun x d S S' w H v Q hg r hx q => by
  obtain ⟨ds, h1, h2⟩ := Option.map_eq_some_iff.mp hg
  cases h2
  obtain ⟨p, xs, e1, h3, h4⟩ := items_at r hx h1
  subst e1
  exact ⟨p, xs, rfl, h3, fun l hl => own_lst' r hl h4 q⟩
def str1 (x : D) (S : Sto) : Option (D × Sto) := match x with
  | .int i => if i.natAbs.log2 < 1920 then some (.str (toString i), S) else none
  | .str s => some (.str s, S)
  | _ => none
theorem b_str : CalR X (.type "str") (g1 str1) := cal1 (rr := fun xs H Q => (∃ i, xs = [.int i] ∧ i.natAbs.log2 < 1920 ∧ Q (.str (toString i)) H) ∨ ∃ a, xs = [.str a] ∧ Q (.str a) H) (fun pins s σ H xs us Q I rv q => q.elim (call_str_int pins s σ H xs us Q I rv) (SkE.call_str_str pins s σ H xs us Q I rv)) fun x d S S' w H v Q hg r hx q => by
  unfold str1 at hg
  split at hg
  · rename_i i
    obtain ⟨hz, e⟩ := some_if hg
    cases e
    exact .inl ⟨i, by rw [show v = .int i from hx], hz, q w H _ Wd.Le.rfl r rfl⟩
  · rename_i a
    cases hg
    exact .inr ⟨a, by rw [show v = .str a from hx], q w H _ Wd.Le.rfl r rfl⟩
  · cases hg
def int1 (x : D) (S : Sto) : Option (D × Sto) := match x with
  | .int i => some (.int i, S)
  | .bl b => some (.int (if b then 1 else 0), S)
  | .str s => if s.length ≤ 640 then (PySem.intText? s).map fun n => (.int n, S) else none
  | _ => none
theorem b_int : CalR X (.type "int") (g1 int1) := cal1 (rr := fun xs H Q => ((∃ i, xs = [.int i] ∧ Q (.int i) H) ∨ ∃ k, xs = [.bl k] ∧ Q (.int (if k then 1 else 0)) H) ∨ ∃ a n, xs = [.str a] ∧ PySem.intText? a = some n ∧ a.length ≤ 640 ∧ Q (.int n) H)
    (fun pins s σ H xs us Q I rv q => q.elim (call_int1 pins s σ H xs us Q I rv) (call_int_str pins s σ H xs us Q I rv)) fun x d S S' w H v Q hg r hx q => by
  unfold int1 at hg
  split at hg
  · rename_i i
    cases hg
    exact .inl (.inl ⟨i, by rw [show v = .int i from hx], q w H _ Wd.Le.rfl r rfl⟩)
  · rename_i b
    cases hg
    exact .inl (.inr ⟨b, by rw [show v = .bl b from hx], q w H _ Wd.Le.rfl r rfl⟩)
  · rename_i s
    by_cases hz : s.length ≤ 640
    · rw [if_pos hz] at hg
      obtain ⟨n, h1, h2⟩ := Option.map_eq_some_iff.mp hg
      cases h2
      exact .inr ⟨s, n, by rw [show v = .str s from hx], h1, hz, q w H _ Wd.Le.rfl r rfl⟩
    · rw [if_neg hz] at hg
      cases hg
  · cases hg
def abs1 (x : D) (S : Sto) : Option (D × Sto) := match x with
  | .int i => some (.int (if i < 0 then -i else i), S)
  | _ => none
theorem b_abs : CalR X (.builtin "abs") (g1 abs1) := cal1 call_abs fun x d S S' w H v Q hg r hx q => by
  unfold abs1 at hg
  split at hg
  · rename_i i
    cases hg
    exact ⟨i, by rw [show v = .int i from hx], q w H _ Wd.Le.rfl r rfl⟩
  · cases hg
def min2 (x y : D) (S : Sto) : Option (D × Sto) := match x, y with
  | .int i, .int j => some (.int (if j < i then j else i), S)
  | _, _ => none
def max2 (x y : D) (S : Sto) : Option (D × Sto) := match x, y with
  | .int i, .int j => some (.int (if j > i then j else i), S)
  | _, _ => none
theorem b_min2 (hc : X.calm = true := by rfl) : CalR X (.builtin "min") (g2 min2) := cal2 (call_min2 hc) fun x y d S S' w H v u Q hg r hx hy q => by
  unfold min2 at hg
  split at hg
  · rename_i i j
    cases hg
    exact ⟨i, j, by rw [show v = .int i from hx, show u = .int j from hy], q w H _ Wd.Le.rfl r rfl⟩
  · cases hg
theorem b_max2 (hc : X.calm = true := by rfl) : CalR X (.builtin "max") (g2 max2) := cal2 (call_max2 hc) fun x y d S S' w H v u Q hg r hx hy q => by
  unfold max2 at hg
  split at hg
  · rename_i i j
    cases hg
    exact ⟨i, j, by rw [show v = .int i from hx, show u = .int j from hy], q w H _ Wd.Le.rfl r rfl⟩
  · cases hg
end
end Cw

set_option maxRecDepth 100000
set_option maxHeartbeats 2000000
set_option linter.all false
/-! List comprehensions; methods of texts and lists; f-strings; isinstance; repr. -/
namespace Cw
open PySem PySem.Spec PyProof.Rows L2

/-! ### comprehensions -/
def WF : WX := fun _ _ _ _ => False
def wipeD (δ : Env) : List Nat → Env
  | [] => δ
  | v :: vs => (wipeD δ vs).set v none
theorem wipe_env {K : PySem.W.Frag} {w : Wd} {σ : L2.St} {δ : Env} (h : EnvOk K w σ δ) : ∀ vs, EnvOk K w (wipe σ vs) (wipeD δ vs)
  | [] => h
  | v :: vs => by
    have ih := wipe_env h vs
    refine ⟨by show ((wipe σ vs).set v none).length = ((wipeD δ vs).set v none).length; rw [List.length_set, List.length_set]; exact ih.1, fun i d e => ?_⟩
    have e' : ((wipeD δ vs).set v none)[i]? = some (some d) := e
    by_cases hi : v = i
    · subst hi
      by_cases hl : v < (wipeD δ vs).length
      · rw [List.getElem?_set_self hl] at e'
        cases e'
      · rw [List.getElem?_eq_none (by rw [List.length_set]; omega)] at e'
        cases e'
    · rw [List.getElem?_set_ne hi] at e'
      obtain ⟨u, h1, h2⟩ := ih.2 i d e'
      exact ⟨u, by show ((wipe σ vs).set v none)[i]? = _; rw [List.getElem?_set_ne hi]; exact h1, h2⟩
theorem wipe_at (σ : L2.St) (i : Nat) : ∀ vs : List Nat, (wipe σ vs)[i]? = if i ∈ vs then (if i < σ.length then some none else none) else σ[i]?
  | [] => by simp [wipe]
  | v :: vs => by
    have ih := wipe_at σ i vs
    show ((wipe σ vs).set v none)[i]? = _
    by_cases hv : v = i
    · subst hv
      rw [if_pos List.mem_cons_self]
      by_cases hl : v < σ.length
      · rw [if_pos hl, List.getElem?_set_self (by rw [wipe_length]; exact hl)]
      · rw [if_neg hl, List.getElem?_eq_none (by rw [List.length_set, wipe_length]; omega)]
    · rw [List.getElem?_set_ne hv, ih]
      by_cases hm : i ∈ vs
      · rw [if_pos hm, if_pos (List.mem_cons_of_mem _ hm)]
      · rw [if_neg hm, if_neg (by simp only [List.mem_cons, not_or]; exact ⟨fun q => hv q.symm, hm⟩)]
theorem wipe_but {ws vs : List Nat} {σ σ' : L2.St} (h : But ws (wipe σ vs) σ') (k : ∀ i ∈ ws, i ∈ vs) : wipe σ' vs = wipe σ vs := by
  have hl : σ'.length = σ.length := h.1.trans (wipe_length σ vs)
  refine List.ext_getElem? fun i => ?_
  rw [wipe_at σ' i vs, wipe_at σ i vs, hl]
  by_cases hm : i ∈ vs
  · rw [if_pos hm, if_pos hm]
  · rw [if_neg hm, if_neg hm, h.2 i fun q => hm (k i q), wipe_at σ i vs, if_neg hm]
/-- where nothing may be raised -/
def bndL {α β : Type} (r : Option (Out α)) (f : α → Sto → Option (Out β)) : Option (Out β) := match r with
  | some (.ok a S) => f a S
  | _ => none
@[simp] theorem bndL_ok {α β : Type} (a : α) (S : Sto) (f : α → Sto → Option (Out β)) : bndL (some (.ok a S)) f = f a S := rfl
def lcD (vs : List Nat) (G : DG) (T : DT) (A : DE) : List D → Env → Sto → List D → Option (Out (List D))
  | [], _, S, acc => some (.ok acc S)
  | d :: ds, δ, S, acc => match G d (wipeD δ vs) S with
    | none => none
    | some δ1 => bndL (T δ1 S) fun b S1 => if b = true then bndL (A δ1 S1) fun y S2 => if acc.length < big then lcD vs G T A ds δ S2 (acc ++ [y]) else none
      else lcD vs G T A ds δ S1 acc
def dLc (I : DI) (vs : List Nat) (G : DG) (T : DT) (A : DE) : DE := fun δ S => bnd (I δ S) fun ds S1 => bnd (lcD vs G T A ds δ S1 []) fun xs S2 => some (.ok (.lst xs) S2)
/-- the same, the list owned -/
def dLcO (I : DI) (vs : List Nat) (G : DG) (T : DT) (A : DE) : DE := fun δ S => bnd (I δ S) fun ds S1 => bnd (lcD vs G T A ds δ S1 []) fun xs S2 => some (.ok (.ref S2.length) (S2 ++ [.lst xs]))
theorem Po.some {α : Type} {K : PySem.W.Frag} {W : WX} {σ : L2.St} {w : Wd} {r : Option (Out α)} {R : α → Sto → Wd → Hp → Prop} (h : Po K W σ w r R) : ∃ o, r = some o := by
  cases r with
  | none => exact h.elim
  | some o => exact ⟨o, rfl⟩
theorem bndL_some {α β : Type} {r : Option (Out α)} {f : α → Sto → Option (Out β)} {o : Out β} (h : bndL r f = some o) : ∃ a S, r = some (.ok a S) ∧ f a S = some o := by
  match r, h with
  | some (.ok a S), h => exact ⟨a, S, rfl, h⟩
/-- the framed object is owned from now on -/
def Wd.adopt (w : Wd) (p : Addr) (F : Hp) : Wd := { w with a := fun k => if k = w.n then p else w.a k, n := w.n + 1, F := F }
theorem Rep.adopt {K : PySem.W.Frag} {S : Sto} {w : Wd} {H : Hp} {p : Addr} (r : Rep K S w H) {xs : List V} {ds : List D} (hp : w.F p = some (.lst xs)) (hd : Dats K w ds xs) {F : Hp} (hF : ∀ b, b ≠ p → w.F b = F b) (h0 : F p = none) : Rep K (S ++ [.lst ds]) (w.adopt p F) H := by
  obtain ⟨h1, h2, h3⟩ := r.frm p _ hp
  have low : ∀ j, j < w.n → (w.adopt p F).a j = w.a j := fun j hj => if_neg (Nat.ne_of_lt hj)
  have top : (w.adopt p F).a w.n = p := if_pos rfl
  have kn : w.Kn (w.adopt p F) := ⟨fun _ _ e => e, Nat.le_succ _, low⟩
  refine ⟨r.sub, by show w.n + 1 = _; rw [List.length_append, r.len]; rfl, fun j ob e => ?_, fun i j hi hj e => ?_, fun b u e => ?_⟩
  · by_cases hj : j < S.length
    · rw [List.getElem?_append_left hj] at e
      obtain ⟨h4, h5⟩ := r.obs j ob e
      rw [low j (by rw [r.len]; exact hj)]
      exact ⟨h4, h5.kn kn rfl⟩
    · have hj2 : j = S.length := by
        have := (List.getElem?_eq_some_iff.mp e).1
        rw [List.length_append, List.length_singleton] at this
        omega
      subst hj2
      rw [List.getElem?_append_right (Nat.le_refl _), Nat.sub_self] at e
      have e' : Ob.lst ds = ob := by simpa using e
      subst e'
      rw [← r.len, top]
      exact ⟨h2, xs, h1, hd.kn kn⟩
  · have hi' : i < w.n + 1 := hi
    have hj' : j < w.n + 1 := hj
    by_cases c1 : i = w.n
    · by_cases c2 : j = w.n
      · rw [c1, c2]
      · have hj3 : j < w.n := by omega
        rw [c1, top, low j hj3] at e
        exact absurd e.symm (h3 j hj3)
    · have hi3 : i < w.n := by omega
      by_cases c2 : j = w.n
      · rw [c2, top, low i hi3] at e
        exact absurd e (h3 i hi3)
      · have hj3 : j < w.n := by omega
        rw [low i hi3, low j hj3] at e
        exact r.inj i j hi3 hj3 e
  · have e' : F b = some u := e
    have hb : b ≠ p := fun q => by
      rw [q, h0] at e'
      cases e'
    obtain ⟨h4, h5, h6⟩ := r.frm b u ((hF b hb).trans e')
    refine ⟨h4, h5, fun j hj => ?_⟩
    have hj' : j < w.n + 1 := hj
    by_cases c1 : j = w.n
    · rw [c1, top]
      exact hb.symm
    · rw [low j (by omega)]
      exact h6 j (by omega)
/-- the loop of a comprehension, behind it what the list becomes -/
theorem lc_run {K : PySem.W.Frag} {W : WX} {σ : L2.St} {I : DI} {vs ws : List Nat} {G : DG} {T : DT} {A : DE} {fin : List D → Sto → Option (Out D)} {Q : VK} (hw : ∀ i ∈ ws, i ∈ vs)
    (hfin : ∀ (acc : List D) (S' : Sto) (w1 w' : Wd) (H' : Hp) (p : Addr) (xs : List V), w1.Kn w' → w'.F = upd w1.F p (.lst xs) → w1.F p = none → w1.H p = none → Rep K S' w' H' → Dats K w' acc xs → Po K W σ w1 (fin acc S') (Got K Q) → Q (.ref p) H')
    {H : Hp} (h : TEv K W (fun δ S => bnd (I δ S) fun ds S1 => bnd (lcD vs G T A ds δ S1 []) fin) σ H Q) : tLc (TIv K W I) (TGv K ws G) (TTv K WF T) (TEv K WF A) vs σ H Q := by
  obtain ⟨δ, S, w, r, he, p⟩ := h
  refine ⟨δ, S, w, r, he, p.bnd.mono fun ds S1 w1 H1 e1 r1 p1 J hJ p hp => ?_⟩
  have pH : w1.H p = none := r1.free hp
  have pF : w1.F p = none := by
    cases q : w1.F p with
    | none => rfl
    | some o =>
      have := (r1.frm p o q).1
      rw [hp] at this
      cases this
  have kn1 : w1.Kn (w1.frame p (.lst [])) := ⟨fun _ _ e => e, Nat.le_refl _, fun _ _ => rfl⟩
  refine ⟨fun i m H' => m = ds.length - i ∧ ∃ acc xs S' w', w1.Kn w' ∧ w'.F = upd w1.F p (.lst xs) ∧ Rep K S' w' H' ∧ Dats K w' acc xs ∧ Po K W σ w1 (bnd (lcD vs G T A (ds.drop i) δ S' acc) fin) (Got K Q), ⟨_, rfl, [], [], S1, _, kn1, rfl, r1.frame hp _, Dats.nil, p1⟩, ?_⟩
  rintro i m H' ⟨rfl, acc, xs, S', w', kn, hF, r', hx, p'⟩
  obtain ⟨hgo, hst⟩ := hJ i S' w' H' kn r'
  cases hd : ds[i]? with
  | none =>
    have hi : ds.length ≤ i := List.getElem?_eq_none_iff.mp hd
    rw [List.drop_of_length_le hi] at p'
    exact .inl ⟨hst hi, hfin acc S' w1 w' H' p xs kn hF pF pH r' hx p'⟩
  | some d =>
    have hi : i < ds.length := (List.getElem?_eq_some_iff.mp hd).1
    obtain ⟨g1, g2⟩ := hgo d hd
    refine .inr ⟨g1, fun H2 => ∃ acc xs S' w', w1.Kn w' ∧ w'.F = upd w1.F p (.lst xs) ∧ Rep K S' w' H2 ∧ Dats K w' acc xs ∧ Po K W σ w1 (bnd (lcD vs G T A (ds.drop (i + 1)) δ S' acc) fin) (Got K Q), fun H2 h2 => ⟨ds.length - (i + 1), by omega, rfl, h2⟩, fun x H2 y => ?_⟩
    obtain ⟨w2, e2, r2, hx2⟩ := g2 x H2 y
    rw [drop_cons hd] at p'
    have p2 : Po K W σ w1 (bnd (match G d (wipeD δ vs) S' with
      | none => none
      | some δ1 => bndL (T δ1 S') fun b S1 => if b = true then bndL (A δ1 S1) fun y S2 => if acc.length < big then lcD vs G T A (ds.drop (i + 1)) δ S2 (acc ++ [y]) else none
        else lcD vs G T A (ds.drop (i + 1)) δ S1 acc) fin) (Got K Q) := p'
    cases q : G d (wipeD δ vs) S' with
    | none =>
      rw [q] at p2
      exact p2.elim
    | some δ1 =>
      rw [q] at p2
      have he2 : EnvOk K w2 (wipe σ vs) (wipeD δ vs) := wipe_env ((he.kn e1.kn).kn (⟨fun b o e => e2.h b o (kn.h b o e), Nat.le_trans kn.n e2.n, fun k hk => (e2.a k (Nat.lt_of_lt_of_le hk kn.n)).trans (kn.a k hk)⟩ : w1.Kn w2)) vs
      refine ⟨d, wipeD δ vs, S', w2, δ1, r2, he2, hx2, q, fun σ3 w3 H3 e3 r3 he3 hbut => ⟨wipe_but hbut hw, ?_⟩⟩
      have p3 : Po K W σ w1 (bnd (bndL (T δ1 S') fun b S1 => if b = true then bndL (A δ1 S1) fun y S2 => if acc.length < big then lcD vs G T A (ds.drop (i + 1)) δ S2 (acc ++ [y]) else none
        else lcD vs G T A (ds.drop (i + 1)) δ S1 acc) fin) (Got K Q) := p2
      cases qT : T δ1 S' with
      | none =>
        rw [qT] at p3
        exact p3.elim
      | some oT =>
        cases oT with
        | exc x S9 =>
          rw [qT] at p3
          exact p3.elim
        | ok b S4 =>
          rw [qT, bndL_ok] at p3
          refine ⟨δ1, S', w3, r3, he3, ?_⟩
          rw [qT]
          refine fun w4 H4 e4 r4 => ?_
          have kn4 : w1.Kn w4 := ⟨fun b o e => e4.h b o (e3.h b o (e2.h b o (kn.h b o e))), Nat.le_trans kn.n (Nat.le_trans e2.n (Nat.le_trans e3.n e4.n)), fun k hk => by
            have h1 := Nat.lt_of_lt_of_le hk kn.n
            have h2 := Nat.lt_of_lt_of_le h1 e2.n
            have h3 := Nat.lt_of_lt_of_le h2 e3.n
            exact (e4.a k h3).trans ((e3.a k h2).trans ((e2.a k h1).trans (kn.a k hk)))⟩
          have F4 : w4.F = upd w1.F p (.lst xs) := e4.f.trans (e3.f.trans (e2.f.trans hF))
          cases b with
          | false =>
            rw [if_neg Bool.false_ne_true] at p3
            exact iteF ⟨acc, xs, S4, w4, kn4, F4, r4, ((hx.le e2).le e3).le e4, p3⟩
          | true =>
            rw [if_pos rfl] at p3
            refine iteT ⟨δ1, S4, w4, r4, he3.le e4, ?_⟩
            cases qA : A δ1 S4 with
            | none =>
              rw [qA] at p3
              exact p3.elim
            | some oA =>
              cases oA with
              | exc x S9 =>
                rw [qA] at p3
                exact p3.elim
              | ok y2 S5 =>
                rw [qA, bndL_ok] at p3
                by_cases hl : acc.length < big
                · rw [if_pos hl] at p3
                  intro w5 H5 e5 r5 v hv
                  have F5 : w5.F p = some (.lst xs) := by rw [e5.f, F4, upd_same]
                  refine ⟨xs, (r5.frm p _ F5).1, big_lt (by rw [hx.len]; exact hl), acc ++ [y2], xs ++ [v], S5, w5.frame p (.lst (xs ++ [v])), ⟨fun b o e => e5.h b o (kn4.h b o e), Nat.le_trans kn4.n e5.n, fun k hk => (e5.a k (Nat.lt_of_lt_of_le hk kn4.n)).trans (kn4.a k hk)⟩, ?_, r5.framed F5, ?_, p3⟩
                  · show upd w5.F p _ = _
                    rw [e5.f, F4, upd_upd]
                  · have kf : w5.Kn (w5.frame p (.lst (xs ++ [v]))) := ⟨fun _ _ e => e, Nat.le_refl _, fun _ _ => rfl⟩
                    exact (((((hx.le e2).le e3).le e4).le e5).append (Dats.cons hv Dats.nil)).kn kf
                · rw [if_neg hl] at p3
                  exact p3.elim
theorem fin_lst {K : PySem.W.Frag} {W : WX} {σ : L2.St} {Q : VK} : ∀ (acc : List D) (S' : Sto) (w1 w' : Wd) (H' : Hp) (p : Addr) (xs : List V), w1.Kn w' → w'.F = upd w1.F p (.lst xs) → w1.F p = none → w1.H p = none → Rep K S' w' H' → Dats K w' acc xs →
    Po K W σ w1 (some (.ok (.lst acc) S')) (Got K Q) → Q (.ref p) H' := fun acc S' w1 w' H' p xs kn hF pF pH r' hx po => by
  have F1 : w'.F p = some (.lst xs) := by rw [hF, upd_same]
  have h2 := (r'.frm p _ F1).2.1
  refine po (w'.thaw p (.lst xs) w1.F) H' ⟨fun b o e => ?_, kn.n, kn.a, rfl⟩ (r'.thaw F1 (fun b hb => by rw [hF, upd_ne hb]) pF) _ ⟨p, xs, rfl, ?_, ?_⟩
  · show upd w'.H p _ b = some o
    rw [upd_ne (ne_of_none e pH)]
    exact kn.h b o e
  · show upd w'.H p _ p = _
    rw [upd_same]
  · refine Dats.kn (w := w') (w' := w'.thaw p (.lst xs) w1.F) ⟨fun b o e => ?_, Nat.le_refl _, fun _ _ => rfl⟩ hx
    show upd w'.H p _ b = some o
    rw [upd_ne (ne_of_none e h2)]
    exact e
theorem fin_own {K : PySem.W.Frag} {W : WX} {σ : L2.St} {Q : VK} : ∀ (acc : List D) (S' : Sto) (w1 w' : Wd) (H' : Hp) (p : Addr) (xs : List V), w1.Kn w' → w'.F = upd w1.F p (.lst xs) → w1.F p = none → w1.H p = none → Rep K S' w' H' → Dats K w' acc xs →
    Po K W σ w1 (some (.ok (.ref S'.length) (S' ++ [.lst acc]))) (Got K Q) → Q (.ref p) H' := fun acc S' w1 w' H' p xs kn hF pF pH r' hx po => by
  have F1 : w'.F p = some (.lst xs) := by rw [hF, upd_same]
  refine po (w'.adopt p w1.F) H' ⟨kn.h, Nat.le_trans kn.n (Nat.le_succ _), fun k hk => ?_, rfl⟩ (r'.adopt F1 hx (fun b hb => by rw [hF, upd_ne hb]) pF) _ ⟨?_, ?_⟩
  · show (if k = w'.n then p else w'.a k) = w1.a k
    rw [if_neg (Nat.ne_of_lt (Nat.lt_of_lt_of_le hk kn.n))]
    exact kn.a k hk
  · show V.ref p = V.ref (if S'.length = w'.n then p else w'.a S'.length)
    rw [if_pos r'.len.symm]
  · show S'.length < w'.n + 1
    rw [r'.len]
    exact Nat.lt_succ_self _
section
variable {X : Cx} {W : WX} {pos : Pos} {k : Nat} {a b c e : Expr} {es : List Expr} {A B C : DE} {T : DA}
/-- a clause's tests -/
structure Tsv (X : Cx) (W : WX) (ifs : List Expr) (A : DT) : Prop where
  pts : PTs X ifs (TTv X.K W A)
def tYesD : DT := fun _ S => some (.ok true S)
theorem tsv_nil : Tsv X W [] tYesD := ⟨⟨fun pins s σ H Q I ⟨δ, S, w, r, he, p⟩ => pts_nil.run pins s σ H Q I (p w H Wd.Le.rfl r)⟩⟩
theorem tsv_one {A : DT} (h : Tv X W c A) : Tsv X W [c] A := ⟨pts_one h.pt⟩
theorem ev_lc {elt tg iter : Expr} {ifs : List Expr} {scope : Scope} {own : List (Str × Nat)} {I : DI} {ws : List Nat} {G : DG} {T : DT} (hc : X.calm = true) (hN : X.N.Nodup) (hi : Iv X W tg iter I) (ok : BlkOk X.N X.env.scope scope own)
    (hg : ∀ (s : Shared) (H : Hp) (C : Addr) (cl : List (Str × Addr)) (fp : List Addr), Gv (X.blk s H scope (compEnvC scope cl C X.env) fp) tg ws G) (ht : ∀ (s : Shared) (H : Hp) (C : Addr) (cl : List (Str × Addr)) (fp : List Addr), Tsv (X.blk s H scope (compEnvC scope cl C X.env) fp) WF ifs T)
    (he : ∀ (s : Shared) (H : Hp) (C : Addr) (cl : List (Str × Addr)) (fp : List Addr), Ev (X.blk s H scope (compEnvC scope cl C X.env) fp) WF elt A) (hs : ∀ x, foldedSetIterable iter X.env x = pure x := by intro _; rfl) (hw : ∀ i ∈ ws, i ∈ own.map (·.2) := by decide) :
    Ev X W (.ListComp elt [⟨tg, iter, ifs, 0⟩] scope pos) (dLc I (own.map (·.2)) G T A) :=
  ⟨pe_imp (pe_lc hc hN hi.pi ok (fun s H C cl fp => (hg s H C cl fp).pg) (fun s H C cl fp => (ht s H C cl fp).pts) (fun s H C cl fp => (he s H C cl fp).pe) hs) fun σ H Q h => lc_run hw fin_lst h⟩
theorem ev_lcO {elt tg iter : Expr} {ifs : List Expr} {scope : Scope} {own : List (Str × Nat)} {I : DI} {ws : List Nat} {G : DG} {T : DT} (hc : X.calm = true) (hN : X.N.Nodup) (hi : Iv X W tg iter I) (ok : BlkOk X.N X.env.scope scope own)
    (hg : ∀ (s : Shared) (H : Hp) (C : Addr) (cl : List (Str × Addr)) (fp : List Addr), Gv (X.blk s H scope (compEnvC scope cl C X.env) fp) tg ws G) (ht : ∀ (s : Shared) (H : Hp) (C : Addr) (cl : List (Str × Addr)) (fp : List Addr), Tsv (X.blk s H scope (compEnvC scope cl C X.env) fp) WF ifs T)
    (he : ∀ (s : Shared) (H : Hp) (C : Addr) (cl : List (Str × Addr)) (fp : List Addr), Ev (X.blk s H scope (compEnvC scope cl C X.env) fp) WF elt A) (hs : ∀ x, foldedSetIterable iter X.env x = pure x := by intro _; rfl) (hw : ∀ i ∈ ws, i ∈ own.map (·.2) := by decide) :
    Ev X W (.ListComp elt [⟨tg, iter, ifs, 0⟩] scope pos) (dLcO I (own.map (·.2)) G T A) :=
  ⟨pe_imp (pe_lc hc hN hi.pi ok (fun s H C cl fp => (hg s H C cl fp).pg) (fun s H C cl fp => (ht s H C cl fp).pts) (fun s H C cl fp => (he s H C cl fp).pe) hs) fun σ H Q h => lc_run hw fin_own h⟩
/-- y = [..] on one line, y a local -/
theorem sv_setLc {i : Nat} {y : Str} {py spos : Pos} {elt tg iter : Expr} {ifs : List Expr} {scope : Scope} {own : List (Str × Nat)} {I : DI} {ws : List Nat} {G : DG} {T : DT} (hc : X.calm = true) (hN : X.N.Nodup) (hi : Iv X W tg iter I) (ok : BlkOk X.N X.env.scope scope own)
    (hg : ∀ (s : Shared) (H : Hp) (C : Addr) (cl : List (Str × Addr)) (fp : List Addr), Gv (X.blk s H scope (compEnvC scope cl C X.env) fp) tg ws G) (ht : ∀ (s : Shared) (H : Hp) (C : Addr) (cl : List (Str × Addr)) (fp : List Addr), Tsv (X.blk s H scope (compEnvC scope cl C X.env) fp) WF ifs T)
    (he : ∀ (s : Shared) (H : Hp) (C : Addr) (cl : List (Str × Addr)) (fp : List Addr), Ev (X.blk s H scope (compEnvC scope cl C X.env) fp) WF elt A) (hsw : swapsWith (.ListComp elt [⟨tg, iter, ifs, 0⟩] scope pos) (some (.Name y py)) spos.line X.env = pure true)
    (hy : X.N[i]? = some y := by rfl) (hyl : X.env.scope.names.lookup y = some .local := by rfl) (hs : ∀ x, foldedSetIterable iter X.env x = pure x := by intro _; rfl) (hw : ∀ i ∈ ws, i ∈ own.map (·.2) := by decide) :
    Sv X W (.Assign [.Name y py] (.ListComp elt [⟨tg, iter, ifs, 0⟩] scope pos) spos) (sAsg (dLc I (own.map (·.2)) G T A) (gNm i)) :=
  ⟨ps_imp (ps_setLc (i := i) hc hN hy hyl hsw hi.pi ok (fun s H C cl fp => (hg s H C cl fp).pg) (fun s H C cl fp => (ht s H C cl fp).pts) (fun s H C cl fp => (he s H C cl fp).pe) hs) fun D σ H h => lc_run hw fin_lst (asg_ok (ws := [i]) gName_ok D σ H h)⟩
theorem sv_setLcO {i : Nat} {y : Str} {py spos : Pos} {elt tg iter : Expr} {ifs : List Expr} {scope : Scope} {own : List (Str × Nat)} {I : DI} {ws : List Nat} {G : DG} {T : DT} (hc : X.calm = true) (hN : X.N.Nodup) (hi : Iv X W tg iter I) (ok : BlkOk X.N X.env.scope scope own)
    (hg : ∀ (s : Shared) (H : Hp) (C : Addr) (cl : List (Str × Addr)) (fp : List Addr), Gv (X.blk s H scope (compEnvC scope cl C X.env) fp) tg ws G) (ht : ∀ (s : Shared) (H : Hp) (C : Addr) (cl : List (Str × Addr)) (fp : List Addr), Tsv (X.blk s H scope (compEnvC scope cl C X.env) fp) WF ifs T)
    (he : ∀ (s : Shared) (H : Hp) (C : Addr) (cl : List (Str × Addr)) (fp : List Addr), Ev (X.blk s H scope (compEnvC scope cl C X.env) fp) WF elt A) (hsw : swapsWith (.ListComp elt [⟨tg, iter, ifs, 0⟩] scope pos) (some (.Name y py)) spos.line X.env = pure true)
    (hy : X.N[i]? = some y := by rfl) (hyl : X.env.scope.names.lookup y = some .local := by rfl) (hs : ∀ x, foldedSetIterable iter X.env x = pure x := by intro _; rfl) (hw : ∀ i ∈ ws, i ∈ own.map (·.2) := by decide) :
    Sv X W (.Assign [.Name y py] (.ListComp elt [⟨tg, iter, ifs, 0⟩] scope pos) spos) (sAsg (dLcO I (own.map (·.2)) G T A) (gNm i)) :=
  ⟨ps_imp (ps_setLc (i := i) hc hN hy hyl hsw hi.pi ok (fun s H C cl fp => (hg s H C cl fp).pg) (fun s H C cl fp => (ht s H C cl fp).pts) (fun s H C cl fp => (he s H C cl fp).pe) hs) fun D σ H h => lc_run hw fin_own (asg_ok (ws := [i]) gName_ok D σ H h)⟩
/-- a comprehension's block is ready for calls, too -/
theorem Rdy.blk {scope : Scope} {cenv : PySem.Env} {s : Shared} {H : Hp} {fp : List Addr} (h : Rdy X W k) : Rdy (X.blk s H scope cenv fp) WF k := ⟨takes0, h.gd, h.rm⟩
theorem Rdy.mono {j : Nat} (h : Rdy X W k) (hj : j ≤ k) : Rdy X W j := ⟨h.tk, h.gd, h.rm.mono hj⟩
end
end Cw

set_option maxRecDepth 100000
set_option maxHeartbeats 2000000
set_option linter.all false
/-! Methods of built-in types; isinstance; texts and enumerate walked. -/
namespace Cw
open PySem PySem.Spec PyProof.Rows L2

/-! ### o.m(..) of built-in types -/
def tyD (S : Sto) (T : String) : D → Bool
  | .str _ => T == "str"
  | .int _ => T == "int"
  | x => match lsOf S x with
    | some _ => T == "list"
    | none => match dicOf S x with
      | some _ => T == "dict"
      | none => false
theorem tyD_ok {K : PySem.W.Frag} {S : Sto} {w : Wd} {H : Hp} {T : String} {x : D} {u : V} (r : Rep K S w H) (hx : Dat K w x u) (h : tyD S T x = true) : tyV K T u H := by
  have two : ∀ x, Dat K w x u → (match lsOf S x with
    | some _ => T == "list"
    | none => match dicOf S x with
      | some _ => T == "dict"
      | none => false) = true → tyV K T u H := fun x hx h => by
    split at h
    · rename_i ds hds
      obtain ⟨p, xs, e1, h3, _⟩ := lsOf_at r hx hds
      subst e1
      exact .inl ⟨eq_of_beq h, xs, h3⟩
    · split at h
      · rename_i ks hks
        obtain ⟨p, xs, e1, h3, _⟩ := dicOf_at r hx hks
        subst e1
        exact .inr (.inr (.inl ⟨eq_of_beq h, .inl ⟨xs, h3⟩⟩))
      · cases h
  cases x with
  | str z =>
    rw [show u = .str z from hx]
    exact eq_of_beq (show (T == "str") = true from h)
  | int z =>
    rw [show u = .int z from hx]
    exact eq_of_beq (show (T == "int") = true from h)
  | _ => exact two _ hx h
/-- a method's rule with what it comes to -/
structure MetR (X : Cx) (id : String) (g : D → List D → Sto → Option (D × Sto)) : Prop where
  ex : ∃ rr : V → List V → Hp → VK → Prop, MtM X id rr ∧ ∀ (x : D) (xs : List D) (d : D) (S S' : Sto) (w : Wd) (H : Hp) (u : V) (vs : List V) (Q : VK), g x xs S = some (d, S') → Rep X.K S w H → Dat X.K w x u → Dats X.K w xs vs → (∀ w' H' z, w.Le w' → Rep X.K S' w' H' → Dat X.K w' d z → Q z H') → rr u vs H Q
def dMt (T : String) (g : D → List D → Sto → Option (D × Sto)) (A : DE) (B : DA) : DE := fun δ S => bnd (A δ S) fun x S1 => if tyD S1 T x = true then bnd (B δ S1) fun xs S2 => upS (g x xs S2) else none
section
variable {X : Cx} {W : WX} {pos apos : Pos} {k : Nat} {o a b c e : Expr} {es : List Expr} {A B C : DE} {L : DA} {id : String} {T : String} {name : Str} {g : D → List D → Sto → Option (D × Sto)}
theorem ev_mt (pa : PlainAttrs T) (slot : Slot T name id) (hm : MetR X id g) (ha : Ev X W o A) (hb : Av X W (e :: es) L) (hty : typeOf (.builtin id) = pure (.type "method_descriptor"))
    (hbase : attributeBase o name X.env (eval o X.env) = eval o X.env := by rfl)
    (hfew : ((backTo pos (starEach (e :: es) X.env)).all (fun x => !x.1) && (backToKw pos (keywordEach [] X.env)).all (fun x => x.1.isSome)
      && decide ((e :: es).length + ([] : List Keyword).length + (if ([] : List Keyword).isEmpty then 0 else 1) < 30)) = true := by rfl)
    (hline : (apos.endLine == pos.line) = true := by rfl) (hs : starEach (e :: es) X.env = (false, eval e X.env) :: starEach es X.env := by rfl) (hplain : (backTo pos (starEach es X.env)).any (·.1) = false := by rfl) :
    Ev X W (.Call (.Attribute o name apos) (e :: es) [] pos) (dMt T g A L) := by
  obtain ⟨rr, h1, h2⟩ := hm.ex
  refine ⟨pe_imp (pe_bm pa slot hty h1 ha.pe hb.pa hbase hfew hline hs hplain) fun σ H Q ⟨δ, S, w, r, he, p⟩ => ⟨δ, S, w, r, he, p.bnd.mono fun x S1 w1 H1 e1 r1 p1 u hu => ?_⟩⟩
  by_cases ht : tyD S1 T x = true
  · rw [if_pos ht] at p1
    refine ⟨tyD_ok r1 hu ht, δ, S1, w1, r1, he.le e1, p1.bnd.mono fun xs S2 w2 H2 e2 r2 p2 vs hvs => ?_⟩
    cases eg : g x xs S2 with
    | none =>
      rw [eg] at p2
      exact p2.elim
    | some q =>
      obtain ⟨d, S3⟩ := q
      rw [eg] at p2
      exact h2 x xs d S2 S3 w2 H2 u vs Q eg r2 (hu.le e2) hvs fun w' H' z e3 r3 hz => p2 w' H' e3 r3 z hz
  · rw [if_neg ht] at p1
    exact p1.elim
def dMt0 (T : String) (g : D → List D → Sto → Option (D × Sto)) (A : DE) : DE := fun δ S => bnd (A δ S) fun x S1 => if tyD S1 T x = true then upS (g x [] S1) else none
theorem ev_mt0 (pa : PlainAttrs T) (slot : Slot T name id) (hm : MetR X id g) (ha : Ev X W o A) (hty : typeOf (.builtin id) = pure (.type "method_descriptor"))
    (hbase : attributeBase o name X.env (eval o X.env) = eval o X.env := by rfl) (hline : (apos.endLine == pos.line) = true := by rfl) : Ev X W (.Call (.Attribute o name apos) [] [] pos) (dMt0 T g A) := by
  obtain ⟨rr, h1, h2⟩ := hm.ex
  refine ⟨pe_imp (pe_bm0 pa slot hty h1 ha.pe hbase hline) fun σ H Q ⟨δ, S, w, r, he, p⟩ => ⟨δ, S, w, r, he, p.bnd.mono fun x S1 w1 H1 e1 r1 p1 u hu => ?_⟩⟩
  by_cases ht : tyD S1 T x = true
  · rw [if_pos ht] at p1
    refine ⟨tyD_ok r1 hu ht, ?_⟩
    cases eg : g x [] S1 with
    | none =>
      rw [eg] at p1
      exact p1.elim
    | some q =>
      obtain ⟨d, S3⟩ := q
      rw [eg] at p1
      exact h2 x [] d S1 S3 w1 H1 u [] Q eg r1 hu Dats.nil fun w' H' z e3 r3 hz => p1 w' H' e3 r3 z hz
  · rw [if_neg ht] at p1
    exact p1.elim
/-- the texts of a list -/
def txs : List D → Option (List Str)
  | [] => some []
  | .str s :: ds => (txs ds).map (s :: ·)
  | _ :: _ => none
theorem strs_ok {K : PySem.W.Frag} {w : Wd} : ∀ {ds : List D} {vs : List V} {ys : List Str}, Dats K w ds vs → txs ds = some ys → vs = ys.map V.str
  | [], _, ys, h, e => by
    cases e
    exact h
  | .str s :: ds, _, ys, ⟨v, vs, h1, h2, h3⟩, e => by
    obtain ⟨cs, h4, h5⟩ := Option.map_eq_some_iff.mp (show (txs ds).map (s :: ·) = some ys from e)
    subst h5
    rw [h1, strs_ok h3 h4, show v = .str s from h2]
    rfl
  | .non :: _, _, _, _, e => by cases e
  | .bl _ :: _, _, _, _, e => by cases e
  | .int _ :: _, _, _, _, e => by cases e
  | .tup _ :: _, _, _, _, e => by cases e
  | .lst _ :: _, _, _, _, e => by cases e
  | .scr _ :: _, _, _, _, e => by cases e
  | .ref _ :: _, _, _, _, e => by cases e
  | .fn _ :: _, _, _, _, e => by cases e
  | .ty _ :: _, _, _, _, e => by cases e
theorem dats_strs {K : PySem.W.Frag} {w : Wd} : ∀ ys : List Str, Dats K w (ys.map D.str) (ys.map V.str)
  | [] => Dats.nil
  | y :: ys => Dats.cons (d := .str y) rfl (dats_strs ys)
def joinV (x : D) (xs : List D) (S : Sto) : Option (D × Sto) := match x, xs with
  | .str a, [y] => match items S y with
    | some ds => match txs ds with
      | some ys => if (ys.map (·.length)).sum + ys.length * a.length ≤ 16777216 then some (.str (Txt.join a ys), S) else none
      | none => none
    | none => none
  | _, _ => none
theorem m_join : MetR X "str.join" joinV := ⟨_, mt_join, fun x xs d S S' w H u vs Q hg r hx hxs q => by
  unfold joinV at hg
  split at hg
  · rename_i a y
    split at hg
    · rename_i ds hds
      split at hg
      · rename_i ys hys
        obtain ⟨hl, e⟩ := some_if hg
        cases e
        obtain ⟨v, e1, h1⟩ := dats_one hxs
        subst e1
        obtain ⟨p, zs, e2, h3, h4⟩ := items_at r h1 hds
        subst e2
        refine ⟨a, p, ys, hx, rfl, ?_, hl, q w H _ Wd.Le.rfl r rfl⟩
        rw [← strs_ok h4 hys]
        exact h3
      · cases hg
    · cases hg
  · cases hg⟩
def splitV (x : D) (xs : List D) (S : Sto) : Option (D × Sto) := match x, xs with
  | .str a, [.str b] => if (b.length == 0) = false ∧ a.length + 2 ≤ big then some (.lst ((Txt.split a b).map D.str), S) else none
  | _, _ => none
theorem m_split : MetR X "str.split" splitV := ⟨_, mt_split, fun x xs d S S' w H u vs Q hg r hx hxs q => by
  unfold splitV at hg
  split at hg
  · rename_i a b
    obtain ⟨hl, e⟩ := some_if hg
    cases e
    obtain ⟨v, e1, h1⟩ := dats_one hxs
    subst e1
    exact ⟨a, b, hx, by rw [show v = .str b from h1], hl.1, big_line hl.2, fun p hp => new_lst' r hp (dats_strs _) q⟩
  · cases hg⟩
def startsV (x : D) (xs : List D) (S : Sto) : Option (D × Sto) := match x, xs with
  | .str a, [.str b] => some (.bl (Txt.startswith a b), S)
  | _, _ => none
theorem m_starts : MetR X "str.startswith" startsV := ⟨_, mt_startswith, fun x xs d S S' w H u vs Q hg r hx hxs q => by
  unfold startsV at hg
  split at hg
  · rename_i a b
    cases hg
    obtain ⟨v, e1, h1⟩ := dats_one hxs
    subst e1
    exact ⟨a, b, hx, by rw [show v = .str b from h1], q w H _ Wd.Le.rfl r rfl⟩
  · cases hg⟩
def partV (x : D) (xs : List D) (S : Sto) : Option (D × Sto) := match x, xs with
  | .str a, [.str b] => if (b.length == 0) = false ∧ a.length ≤ big then some (.tup [.str (Txt.partition a b).1, .str (Txt.partition a b).2.1, .str (Txt.partition a b).2.2], S) else none
  | _, _ => none
theorem m_part : MetR X "str.partition" partV := ⟨_, mt_partition, fun x xs d S S' w H u vs Q hg r hx hxs q => by
  unfold partV at hg
  split at hg
  · rename_i a b
    obtain ⟨hl, e⟩ := some_if hg
    cases e
    obtain ⟨v, e1, h1⟩ := dats_one hxs
    subst e1
    exact ⟨a, b, hx, by rw [show v = .str b from h1], hl.1, big_line hl.2, fun p hp => new_tup' r hp (dats_strs [_, _, _]) q⟩
  · cases hg⟩
/-- the owned list's number and what it holds -/
def ownL (S : Sto) : D → Option (Nat × List D)
  | .ref n => match S[n]? with
    | some (.lst ds) => some (n, ds)
    | _ => none
  | _ => none
theorem ownL_at {K : PySem.W.Frag} {S : Sto} {w : Wd} {H : Hp} {d : D} {v : V} {n : Nat} {ds : List D} (r : Rep K S w H) (hv : Dat K w d v) (h : ownL S d = some (n, ds)) : v = .ref (w.a n) ∧ n < w.n ∧ ∃ xs, H (w.a n) = some (.lst xs) ∧ Dats K w ds xs := by
  cases d with
  | ref m =>
    obtain ⟨e, hn⟩ := hv
    have h0 : (match S[m]? with | some (.lst ds) => some (m, ds) | _ => none) = some (n, ds) := h
    cases q : S[m]? with
    | none => rw [q] at h0; cases h0
    | some o =>
      rw [q] at h0
      obtain ⟨_, h2⟩ := r.obs m o q
      cases o with
      | lst es =>
        cases h0
        obtain ⟨xs, h3, h4⟩ := h2
        exact ⟨e, hn, xs, h3, h4⟩
      | _ => cases h0
  | _ => cases h
theorem wr_lst {K : PySem.W.Frag} {S : Sto} {w : Wd} {H : Hp} {n : Nat} {ds : List D} {xs : List V} {d : D} {z : V} {Q : VK} (r : Rep K S w H) (hn : n < w.n) (h : Dats K w ds xs) (hz : Dat K w d z) (q : ∀ w' H' z, w.Le w' → Rep K (S.set n (.lst ds)) w' H' → Dat K w' d z → Q z H') : Q z (upd H (w.a n) (.lst xs)) :=
  q w _ z Wd.Le.rfl (r.write hn (fun b hb => upd_ne hb) ⟨xs, upd_same, h⟩) hz
def appendV (x : D) (xs : List D) (S : Sto) : Option (D × Sto) := match ownL S x, xs with
  | some (n, ds), [y] => if ds.length < big then some (.non, S.set n (.lst (ds ++ [y]))) else none
  | _, _ => none
theorem m_append : MetR X "list.append" appendV := ⟨_, mt_append, fun x xs d S S' w H u vs Q hg r hx hxs q => by
  unfold appendV at hg
  split at hg
  · rename_i n ds y hn
    obtain ⟨hl, e⟩ := some_if hg
    cases e
    obtain ⟨v, e1, h1⟩ := dats_one hxs
    subst e1
    obtain ⟨e2, h2, zs, h3, h4⟩ := ownL_at r hx hn
    exact ⟨_, zs, v, e2, rfl, h3, big_lt (by rw [h4.len]; exact hl), wr_lst r h2 (h4.append (Dats.cons h1 Dats.nil)) (d := .non) rfl q⟩
  · cases hg⟩
def extendV (x : D) (xs : List D) (S : Sto) : Option (D × Sto) := match ownL S x, xs with
  | some (n, ds), [y] => match lstOf S y with
    | some es => if ds.length + es.length ≤ big then some (.non, S.set n (.lst (ds ++ es))) else none
    | none => none
  | _, _ => none
theorem m_extend : MetR X "list.extend" extendV := ⟨_, mt_extend, fun x xs d S S' w H u vs Q hg r hx hxs q => by
  unfold extendV at hg
  split at hg
  · rename_i n ds y hn
    split at hg
    · rename_i es hes
      obtain ⟨hl, e⟩ := some_if hg
      cases e
      obtain ⟨v, e1, h1⟩ := dats_one hxs
      subst e1
      obtain ⟨e2, h2, zs, h3, h4⟩ := ownL_at r hx hn
      obtain ⟨p, ys, e5, h5, h6⟩ := lstOf_at r h1 hes
      subst e5
      exact ⟨_, p, zs, ys, e2, rfl, h3, h5, big_line (by rw [h4.len, h6.len]; exact hl), wr_lst r h2 (h4.append h6) (d := .non) rfl q⟩
    · cases hg
  · cases hg⟩
def popV (x : D) (xs : List D) (S : Sto) : Option (D × Sto) := match ownL S x, xs with
  | some (n, ds), [.int i] => if isSmall i then (match seqIndex? i ds.length with
    | some k => match ds[k]? with
      | some d => some (d, S.set n (.lst (ds.eraseIdx k)))
      | none => none
    | none => none) else none
  | some (n, ds), [] => match ds[ds.length - 1]? with
    | some d => some (d, S.set n (.lst ds.dropLast))
    | none => none
  | _, _ => none
theorem Dats.dropLast {K : PySem.W.Frag} {w : Wd} {ds : List D} {vs : List V} (h : Dats K w ds vs) : Dats K w ds.dropLast vs.dropLast := by
  rw [List.dropLast_eq_take, List.dropLast_eq_take, h.len]
  exact h.take _
theorem m_pop : MetR X "list.pop" popV := ⟨fun x vs H Q => rPopAt x vs H Q ∨ rPop x vs H Q, fun pins s σ H x xs v us Q I rx rv h => h.elim (mt_popAt pins s σ H x xs v us Q I rx rv) (mt_pop pins s σ H x xs v us Q I rx rv), fun x xs d S S' w H u vs Q hg r hx hxs q => by
  unfold popV at hg
  split at hg
  · rename_i n ds i hn
    obtain ⟨e2, h2, zs, h3, h4⟩ := ownL_at r hx hn
    by_cases hi : isSmall i
    · rw [if_pos hi] at hg
      split at hg
      · rename_i k hk
        split at hg
        · rename_i y hy
          cases hg
          obtain ⟨v, e1, h1⟩ := dats_one hxs
          subst e1
          obtain ⟨z, h5, h6⟩ := h4.get hy
          have a1 := hi.1
          have a2 := hi.2
          exact .inl ⟨_, zs, i, k, z, e2, by rw [show v = .int i from h1], h3, by omega, by omega, by rw [h4.len]; exact hk, h5, wr_lst r h2 (h4.eraseIdx k) h6 q⟩
        · cases hg
      · cases hg
    · rw [if_neg hi] at hg
      cases hg
  · rename_i n ds hn
    obtain ⟨e2, h2, zs, h3, h4⟩ := ownL_at r hx hn
    split at hg
    · rename_i y hy
      cases hg
      obtain ⟨z, h5, h6⟩ := h4.get hy
      exact .inr ⟨_, zs, z, e2, hxs, h3, by rw [h4.len]; exact h5, wr_lst r h2 h4.dropLast h6 q⟩
    · cases hg
  · cases hg⟩

/-! ### isinstance(x, T) -/
theorem ev_ty {x : Str} {n : String} (hg : Gl X x) (hm : X.mg x = none) (hv : bootBuiltins x = some (.type n)) (hn : x ≠ "__name__" := by decide) (hd : (x == ("__debug__" : Str)) = false := by decide) : Ev X W (.Name x pos) (dC (.ty n)) :=
  ⟨pe_imp (pe_bltn (v := .ty n) hg hm hv rfl hn hd) (tev_c fun _ => rfl)⟩
def tyName (S : Sto) : D → Option String
  | .non => some "NoneType"
  | .bl _ => some "bool"
  | .int _ => some "int"
  | .str _ => some "str"
  | .tup _ => some "tuple"
  | .lst _ => some "list"
  | .ref n => match S[n]? with
    | some (.lst _) => some "list"
    | some (.dic _) => some "dict"
    | _ => none
  | _ => none
theorem tyT {K : PySem.W.Frag} {H : Hp} {p : Addr} {xs : List V} (h : SqT K H p xs) : TyX K H (.ref p) (.type "tuple") := by
  rcases h with (h | ⟨o, h⟩) | h
  · exact .base (.tup h)
  · exact .fTuple h
  · obtain ⟨o, its, n, h1, h2, _⟩ := h
    exact .kTuple h1 h2
theorem tyLx {K : PySem.W.Frag} {H : Hp} {p : Addr} {xs : List V} (h : SqL K H p xs) : TyX K H (.ref p) (.type "list") := by
  rcases h with (h | ⟨o, h⟩) | h
  · exact .base (.lst h)
  · exact .base (.frz h)
  · obtain ⟨o, its, n, h1, h2, _⟩ := h
    exact .kList h1 h2
theorem tyName_ok {K : PySem.W.Frag} {S : Sto} {w : Wd} {H : Hp} {x : D} {u : V} {t : String} (r : Rep K S w H) (hx : Dat K w x u) (h : tyName S x = some t) : TyX K H u (.type t) := by
  cases x with
  | non => cases h; rw [show u = .non from hx]; exact .base .non
  | bl b => cases h; rw [show u = .bl b from hx]; exact .base (.bl b)
  | int b => cases h; rw [show u = .int b from hx]; exact .base (.int b)
  | str b => cases h; rw [show u = .str b from hx]; exact .base (.str b)
  | tup ds =>
    cases h
    obtain ⟨p, xs, e, h1, h2⟩ := hx
    subst e
    exact tyT (r.sqT h1)
  | lst ds =>
    cases h
    obtain ⟨p, xs, e, h1, h2⟩ := hx
    subst e
    exact .base (.lst (r.sub _ _ h1))
  | scr ds => cases h
  | ref n =>
    obtain ⟨e, hn⟩ := hx
    subst e
    have h0 : (match S[n]? with | some (.lst _) => some "list" | some (.dic _) => some "dict" | _ => none) = some t := h
    cases q : S[n]? with
    | none => rw [q] at h0; cases h0
    | some o =>
      rw [q] at h0
      obtain ⟨_, h2⟩ := r.obs n o q
      cases o with
      | lst es =>
        cases h0
        obtain ⟨xs, h3, h4⟩ := h2
        exact .base (.lst h3)
      | dic es =>
        cases h0
        obtain ⟨xs, h3, h4⟩ := h2
        exact .base (.dK h3)
      | ins c fs => cases h0
  | fn x => cases h
  | ty x => cases h
def isiV (x y : D) (S : Sto) : Option (D × Sto) := match y with
  | .ty n => match tyName S x with
    | some t => (kitB t n).map fun b => (.bl b, S)
    | none => none
  | _ => none
theorem b_isi : CalR X (.builtin "isinstance") (g2 isiV) := cal2 call_isi fun x y d S S' w H v u Q hg r hx hy q => by
  unfold isiV at hg
  split at hg
  · rename_i n
    split at hg
    · rename_i t ht
      obtain ⟨b, h1, h2⟩ := Option.map_eq_some_iff.mp hg
      cases h2
      exact ⟨v, u, .type t, .type n, b, rfl, by rw [show u = .ty n from hy]; exact .ty n, tyName_ok r hx ht, kit_ty h1, q w H _ Wd.Le.rfl r rfl⟩
    · cases hg
  · cases hg

/-! ### a text, walked; enumerate -/
def sgn (c : Nat) : D := .str ⟨#[c]⟩
def iStrD (A : DE) : DI := fun δ S => bnd (A δ S) fun d S1 => up (match d with | .str z => some (z.cps.toList.map sgn) | _ => none) S1
theorem walk_s {K : PySem.W.Frag} {z : Str} {w1 : Wd} : WalkD K (Its z) (z.cps.toList.map sgn) w1 := fun i S' w' H' e' r' => by
  refine ⟨fun d hd => ?_, fun hi => by rw [List.length_map, Array.length_toList] at hi; exact hi⟩
  rw [List.getElem?_map, Array.getElem?_toList] at hd
  obtain ⟨c, h1, h2⟩ := Option.map_eq_some_iff.mp hd
  subst h2
  refine ⟨(Array.getElem?_eq_some_iff.mp h1).1, fun x H2 ⟨e2, c2, h3, h4⟩ => ?_⟩
  rw [h1] at h3
  cases h3
  rw [e2]
  exact ⟨w', Wd.Le.rfl, r', h4⟩
theorem iv_str {tg l : Expr} (h : Ev X W l A) : Iv X W tg l (iStrD A) :=
  ⟨pi_imp (pi_str h.pe) fun σ H R ⟨δ, S, w, r, he, p⟩ => ⟨δ, S, w, r, he, p.bnd.mono fun d S1 w1 H1 e1 r1 p1 v hv => by
    obtain ⟨ds, hds, p1⟩ := p1.up r1
    cases d with
    | str z =>
      cases hds
      exact ⟨z, hv, p1 _ walk_s⟩
    | _ => cases hds⟩⟩
end
end Cw

set_option maxRecDepth 100000
set_option maxHeartbeats 2000000
set_option linter.all false
/-! enumerate, with a start; augmented names; dict displays; repr; keyword calls. -/
namespace Cw
open PySem PySem.Spec PyProof.Rows L2

/-! ### enumerate(x, k) over a list -/
def numI (k : Int) (a : Addr) (K : PySem.W.Frag) : It :=
  ⟨fun i H => ∃ (xs : List V) (x : V), SqL K H a xs ∧ xs[i]? = some x, fun i H v H' => ∃ T x, v = .ref T ∧ H T = none ∧ H' = upd H T (.tup [.int (k + (i : Nat)), x]) ∧ ∀ xs, SqL K H a xs → xs[i]? = some x, fun i H => ∃ xs : List V, SqL K H a xs ∧ xs.length ≤ i⟩
theorem turn_num {P : Program} {w : World} {K : PySem.W.Frag} {elts : List Expr} {kk : Nat} {tpos : Pos} (k : Int) (a e j : Addr) (hja : a ≠ j) :
    Turn P w K (.Tuple elts kk tpos) (numI k a K) [e, j] e (fun i h => (∃ old, IsEnum h e j (k + ((i : Nat) : Int)) old) ∧ h.IsListIter j a i ∧ e ≠ j ∧ e ≠ a) where
  mem := List.mem_cons_self
  obj := fun i h st b hb => by
    obtain ⟨⟨old, he⟩, ⟨o, ho, hc, hd⟩, _⟩ := st
    rcases List.mem_cons.mp hb with z | z
    · rw [z]
      exact ⟨_, he, fun v q => nomatch q⟩
    · rw [List.mem_singleton.mp z]
      exact ⟨o, ho, fun v q => by rw [hd] at q; cases q⟩
  keep := fun i h h' ⟨⟨old, he⟩, hi, hn⟩ q => ⟨⟨old, q e List.mem_cons_self _ he⟩, hi.at fun o z => q j (List.mem_cons_of_mem _ List.mem_cons_self) o z, hn⟩
  item := by
    intro X hP hw hK hc i pins s σ H E I hf ⟨⟨old, he⟩, hit, hej, hea⟩ ⟨xs, x, hq, hx⟩
    subst hP hw hK
    obtain ⟨its, rv, pl, hz⟩ := I.list hq
    obtain ⟨u, hu, ru⟩ := rv.get hx
    have lt1 : e < s.heap.objs.size := Heap.lt_size he
    have lt2 : j < s.heap.objs.size := by
      obtain ⟨_, q, _⟩ := hit
      exact Heap.lt_size q
    have hi : i < its.toArray.size := by
      rw [List.size_toArray]
      exact (List.getElem?_eq_some_iff.mp hu).1
    refine wpAny_pyNext_enum_itemC (Draws.list (A := X.A.in1) (I.ok.hd hc) j a hja its.toArray) he ⟨hit, pl.isList⟩ hi hej (by simp [hej, hea]) fun y h' tk hy ho hst hT hsz hk => ?_
    have ey : u = y := by
      have q : its.toArray[i]? = some u := by rw [← Array.getElem?_toList]; exact hu
      rw [q] at hy
      exact Option.some.inj hy
    subst ey
    refine ⟨_, rfl, wpAny_letOwnedTupleGo_enum (s := { s with heap := h', toks := tk + 1 }) ho fun h2 he2 sb => ?_⟩
    have nT : s.heap.objs.size ≠ e := Nat.ne_of_gt lt1
    have hT2 : h2.get? s.heap.objs.size = some { cls := .type "tuple", data := .seq #[.int (k + (i : Nat)) tk, u] } := (sb.2 _ nT).trans hT
    have new : ObjOk X.prog X.w (upd H s.heap.objs.size (.tup [.int (k + (i : Nat)), x])) h2 s.heap.objs.size (.tup [.int (k + (i : Nat)), x]) :=
      ⟨by show 2 ≤ sizeLine; decide, [_, u], .cons ⟨tk, rfl⟩ (.cons ru .nil), ⟨_, hT2, rfl, _, rfl⟩⟩
    have other : ∀ b ob, b ∉ [e, j] → s.heap.get? b = some ob → h2.get? b = some ob := fun b ob hb q => by
      have b1 : b ≠ e := fun z => hb (z ▸ List.mem_cons_self)
      have b2 : b ≠ j := fun z => hb (z ▸ List.mem_cons_of_mem _ List.mem_cons_self)
      exact (sb.2 b b1).trans (hk b ob b1 b2 q)
    refine ⟨.ref s.heap.objs.size, _, I.turnedNew (ch := [e, j]) other hf (Nat.le_refl _) new, rfl, ⟨_, x, rfl, I.hok.fresh (Nat.le_refl _), rfl, fun ys hy => by rw [I.list_inj hy hq]; exact hx⟩, ⟨⟨u, ?_⟩, hst.1.at fun o q => (sb.2 j (Ne.symm hej)).trans q, hej, hea⟩, fun b hb => ?_⟩
    · rw [show k + ((i + 1 : Nat) : Int) = k + (i : Int) + 1 by omega]
      exact he2
    · have hb' : b < s.heap.objs.size := by
        rcases List.mem_cons.mp hb with z | z
        · rw [z]; exact lt1
        · rw [List.mem_singleton.mp z]; exact lt2
      rw [upd_ne (Nat.ne_of_lt hb')]
      exact (hf b hb).1
  done := by
    intro X hP hw hK hc i pins s σ H E I hf ⟨⟨old, he⟩, hit, hej, hea⟩ ⟨xs, hq, hx⟩
    subst hP hw hK
    obtain ⟨its, rv, pl, hz⟩ := I.list hq
    obtain ⟨f0, f1, f2, f3, f4, f5⟩ := hf j (List.mem_cons_of_mem _ List.mem_cons_self)
    have hl := rv.length
    have dn : Draws X.prog X.w X.A.in1 j [j, a] i (fun _ _ => False) (fun m h => m = i ∧ h.IsListIter j a i ∧ h.IsList a its.toArray) :=
      { live := fun _ _ st => let ⟨o, ho, _⟩ := st.2.1; ⟨o, ho⟩
        frame := fun _ _ _ st q => ⟨st.1, st.2.1.at fun o e => q j (by simp) o e, st.2.2.at fun o e => q a (by simp) o e⟩
        item := fun m s Q E hm st _ => absurd hm (by rw [st.1]; exact Nat.lt_irrefl _)
        done := fun s Q E st hE => wpAny_nextOf_list_end (I.ok.hd hc) st.2.1 st.2.2 (by simp; omega) hE }
    exact wpAny_pyNext_enum_endD dn he ⟨rfl, hit, pl.isList⟩ fun h' eb => ⟨rfl, I.turned (t' := s.toks) (fun b o hb q => eb b o hb q) f0 f1 f3 f4 f5⟩
  self := fun A i s Q E ⟨⟨_, he⟩, _⟩ h => wpAny_pyIter_enum he h
def iNum (K : PySem.W.Frag) (ta : TA) : TI := fun σ H R => ta σ H fun vs H1 => ∃ a xs k, vs = [.ref a, .int k] ∧ SqL K H1 a xs ∧ isSmall k ∧ R (numI k a K) H1
section
variable {X : Cx} {W : WX} {pos apos : Pos} {k : Nat} {o a b c e : Expr} {es : List Expr} {A B C : DE} {L : DA}
theorem pi_num {ta : TA} {p tpos : Pos} {elts : List Expr} {kk : Nat} (hg : Gl X "enumerate") (hm : X.mg "enumerate" = none) (ha : PA X [a, b] ta) (hs : starEach [a, b] X.env = [(false, eval a X.env), (false, eval b X.env)] := by rfl) (hs2 : starEach [b] X.env = [(false, eval b X.env)] := by rfl) :
    PI X (.Tuple elts kk tpos) (.Call (.Name "enumerate" p) [a, b] [] pos) (iNum X.K ta) := by
  refine ⟨fun pins s σ H R I h => Call_ (ld_blt I hg hm boot_enumerate (PyProof.Rows.callWith_type1 (thn (ha.run pos pins s σ H _ I h) fun us s1 ⟨vs, H1, I1, r1, l, xs, n, ex, hq, hn, q⟩ => ?_) (by rw [hs, hs2]) (by rw [hs2]; rfl)))⟩
  subst ex
  obtain ⟨u1, u2, rfl, r1, r2⟩ := vals2 r1
  obtain rfl : u1 = Value.ref l := r1
  obtain ⟨t, rfl⟩ : ∃ t, u2 = Value.int n t := r2
  obtain ⟨its, rv, pl, hz⟩ := I1.list hq
  have n1 := hn.1
  have n2 := hn.2
  refine enum_begins (begins_list l its.toArray) pl.isList (by omega) (by omega) fun h' he hit hsz hk => wpAny_pyIter_enum he ?_
  have ll : l < s1.heap.objs.size := by
    obtain ⟨o, q, _⟩ := pl.isList
    exact Heap.lt_size q
  refine ⟨s1.heap.objs.size + 1, [s1.heap.objs.size + 1, s1.heap.objs.size], _, _, H1, rfl, I1.kept (t' := s1.toks) hk, turn_num n l (s1.heap.objs.size + 1) s1.heap.objs.size (Nat.ne_of_lt ll), ⟨⟨.none, by simpa using he⟩, ⟨_, hit, rfl, rfl⟩, Nat.succ_ne_self _, Nat.ne_of_gt (Nat.lt_succ_of_lt ll)⟩, fun b hb => ?_, q⟩
  have hle : s1.heap.objs.size ≤ b := by
    rcases List.mem_cons.mp hb with z | z
    · rw [z]; exact Nat.le_succ _
    · rw [List.mem_singleton.mp z]; exact Nat.le_refl _
  exact I1.fpOk hle (I1.hok.fresh hle)
/-- numbered from k -/
def numd : Int → List D → List D
  | _, [] => []
  | k, d :: ds => .tup [.int k, d] :: numd (k + 1) ds
theorem numd_at : ∀ (k : Int) (ds : List D) (i : Nat), (numd k ds)[i]? = (ds[i]?).map fun d => .tup [.int (k + (i : Nat)), d]
  | k, [], i => by simp [numd]
  | k, d :: ds, 0 => by simp [numd]
  | k, d :: ds, i + 1 => by
    have h := numd_at (k + 1) ds i
    rw [show k + 1 + (i : Int) = k + ((i + 1 : Nat) : Int) by omega] at h
    simpa [numd] using h
theorem numd_len : ∀ (k : Int) (ds : List D), (numd k ds).length = ds.length
  | _, [] => rfl
  | k, d :: ds => by rw [numd, List.length_cons, List.length_cons, numd_len]
/-- a list that stays as it is -/
def stillL : D → Option (List D)
  | .lst ds => some ds
  | .scr ds => some ds
  | _ => none
theorem stillL_at {K : PySem.W.Frag} {w : Wd} {d : D} {v : V} {ds : List D} (hv : Dat K w d v) (h : stillL d = some ds) : ∃ p xs, v = .ref p ∧ SqL K w.H p xs ∧ Dats K w ds xs := by
  cases d with
  | lst es =>
    obtain ⟨p, xs, e, h1, h2⟩ := hv
    cases h
    exact ⟨p, xs, e, SqL.of h1, h2⟩
  | scr es =>
    obtain ⟨p, xs, e, h1, h2⟩ := hv
    cases h
    exact ⟨p, xs, e, h1, h2⟩
  | _ => cases h
theorem walk_num {K : PySem.W.Frag} {k : Int} {a : Addr} {xs : List V} {ds : List D} {w1 : Wd} (hq : SqL K w1.H a xs) (hx : Dats K w1 ds xs) : WalkD K (numI k a K) (numd k ds) w1 := fun i S' w' H' e' r' => by
  have q := r'.sqL (sqL_le e'.h hq)
  refine ⟨fun d hd => ?_, fun hi => ⟨xs, q, by rw [hx.len, ← numd_len k ds]; exact hi⟩⟩
  rw [numd_at] at hd
  obtain ⟨d0, h0, e0⟩ := Option.map_eq_some_iff.mp hd
  obtain ⟨v, h1, h2⟩ := hx.get h0
  refine ⟨⟨xs, v, q, h1⟩, fun x H2 ⟨T, y, ex, hT, eH, hy⟩ => ?_⟩
  have e3 := hy xs q
  rw [h1] at e3
  cases e3
  subst ex eH e0
  obtain ⟨z1, z2, z3⟩ := new_tup (ds := [.int (k + (i : Nat)), d0]) (xs := [.int (k + (i : Nat)), v]) r' hT (Dats.cons (d := .int _) rfl (Dats.cons (h2.kn e') Dats.nil))
  exact ⟨_, z1, z2, z3⟩
def num2 : List D → Option (List D)
  | [x, .int k] => if isSmall k then (stillL x).map (numd k) else none
  | _ => none
def iNumD (A : DA) : DI := fun δ S => bnd (A δ S) fun xs S1 => up (num2 xs) S1
theorem iv_num {p tpos : Pos} {elts : List Expr} {kk : Nat} {T : DA} (hg : Gl X "enumerate") (hm : X.mg "enumerate" = none) (ha : Av X W [a, b] T) (hs : starEach [a, b] X.env = [(false, eval a X.env), (false, eval b X.env)] := by rfl) (hs2 : starEach [b] X.env = [(false, eval b X.env)] := by rfl) :
    Iv X W (.Tuple elts kk tpos) (.Call (.Name "enumerate" p) [a, b] [] pos) (iNumD T) :=
  ⟨pi_imp (pi_num hg hm ha.pa hs hs2) fun σ H R ⟨δ, S, w, r, he, p⟩ => ⟨δ, S, w, r, he, p.bnd.mono fun xs S1 w1 H1 e1 r1 p1 vs hv => by
    obtain ⟨ds, hds, p1⟩ := p1.up r1
    match xs, hds with
    | [x, .int n], hds =>
      have hds' : (if isSmall n then (stillL x).map (numd n) else none) = some ds := hds
      by_cases hj : isSmall n
      · rw [if_pos hj] at hds'
        obtain ⟨es, h1, h2⟩ := Option.map_eq_some_iff.mp hds'
        subst h2
        obtain ⟨v, u, e3, h3, h4⟩ := dats_two hv
        obtain ⟨p, ys, e4, h5, h6⟩ := stillL_at h3 h1
        exact ⟨p, ys, n, by rw [e3, e4, show u = .int n from h4], r1.sqL h5, hj, p1 _ (walk_num h5 h6)⟩
      · rw [if_neg hj] at hds'
        cases hds'⟩⟩
def num1 : List D → Option (List D)
  | [x] => (stillL x).map (numd 0)
  | _ => none
def iNumD0 (A : DA) : DI := fun δ S => bnd (A δ S) fun xs S1 => up (num1 xs) S1
theorem walk_num0 {K : PySem.W.Frag} {a : Addr} {xs : List V} {ds : List D} {w1 : Wd} (hq : SqL K w1.H a xs) (hx : Dats K w1 ds xs) : WalkD K (Ite K a) (numd 0 ds) w1 := fun i S' w' H' e' r' => by
  obtain ⟨h1, h2⟩ := walk_num (k := 0) hq hx i S' w' H' e' r'
  refine ⟨fun d hd => ?_, h2⟩
  obtain ⟨h3, h4⟩ := h1 d hd
  refine ⟨h3, fun x H2 ⟨T, y, ex, hT, eH, hy⟩ => h4 x H2 ⟨T, y, ex, hT, ?_, hy⟩⟩
  rw [eH, Int.zero_add]
theorem iv_num0 {p tpos : Pos} {elts : List Expr} {kk : Nat} {T : DA} (hg : Gl X "enumerate") (hm : X.mg "enumerate" = none) (ha : Av X W [a] T) (hs : starEach [a] X.env = [(false, eval a X.env)] := by rfl) :
    Iv X W (.Tuple elts kk tpos) (.Call (.Name "enumerate" p) [a] [] pos) (iNumD0 T) :=
  ⟨pi_imp (pi_enum hg hm ha.pa hs) fun σ H R ⟨δ, S, w, r, he, p⟩ => ⟨δ, S, w, r, he, p.bnd.mono fun xs S1 w1 H1 e1 r1 p1 vs hv => by
    obtain ⟨ds, hds, p1⟩ := p1.up r1
    match xs, hds with
    | [x], hds =>
      obtain ⟨es, h1, h2⟩ := Option.map_eq_some_iff.mp (show (stillL x).map (numd 0) = some ds from hds)
      subst h2
      obtain ⟨v, e3, h3⟩ := dats_one hv
      obtain ⟨p, ys, e4, h5, h6⟩ := stillL_at h3 h1
      exact ⟨p, ys, by rw [e3, e4], r1.sqL h5, p1 _ (walk_num0 h5 h6)⟩⟩⟩

/-! ### x op= e, x a name -/
def dAug (i : Nat) (g : D → D → Sto → Option (D × Sto)) (A : DE) : DS := fun δ S => match δ[i]? with
  | some (some x) => bndS (A δ S) δ fun y S1 => match g x y S1 with
    | some (z, S2) => some (.nx (δ.set i (some z)) S2)
    | none => none
  | _ => none
theorem sv_aug {i : Nat} {x : Str} {op : Operator} {rr : R2} {g : D → D → Sto → Option (D × Sto)} {pos' : Pos} (hN : X.N.Nodup) (hp : OpR X (inplaceOp op) rr) (hg : OpD X.K rr g) (ha : Ev X W e A) (hi : X.N[i]? = some x := by rfl) (hx : Loc X.env.scope x := by first | exact Or.inl rfl | exact Or.inr rfl)
    (hf : X.fn x = true ∨ X.env.scope.names.lookup x = some .local := by first | exact .inl rfl | exact .inr rfl) : Sv X W (.AugAssign (.Name x pos') op e pos) (dAug i g A) :=
  ⟨ps_imp (ps_aug hN hi hx ha.pe hp hf) fun D σ H ⟨δ, S, w, r, he, p⟩ => by
    unfold dAug at p
    cases q : δ[i]? with
    | none => rw [q] at p; exact p.elim
    | some o =>
      cases o with
      | none => rw [q] at p; exact p.elim
      | some d =>
        rw [q] at p
        obtain ⟨v, h1, h2⟩ := he.2 i d q
        refine ⟨v, h1, δ, S, w, r, he, (PoS.bnd he p).mono fun y S1 w1 H1 e1 r1 p1 u hu => ?_⟩
        cases eg : g d y S1 with
        | none =>
          rw [eg] at p1
          exact p1.elim
        | some q2 =>
          obtain ⟨z, S2⟩ := q2
          rw [eg] at p1
          exact hg d y z S1 S2 w1 H1 v u _ eg r1 (h2.le e1) hu fun w' H' t e2 r2 ht => p1 _ w' H' e2 r2 (((he.le e1).le e2).set i ht)⟩
end
end Cw

set_option maxRecDepth 100000
set_option maxHeartbeats 2000000
set_option linter.all false
/-! In-place +; lists that are owned; repr; dict displays; calls with keywords. -/
namespace Cw
open PySem PySem.Spec PyProof.Rows L2

/-! ### += -/
theorem no_iadd_tuple : typeLookup (.type "tuple") (dunderI "add") = pure none := by
  rw [typeLookup_type, builtinLookup_eq_fast]
  kernel_rfl
section
variable {prog : Program} {w : World} {A : Around} {E : Value → Shared → Prop} {s : Shared}
theorem iadd_tuples {t b : Addr} {vs us : List Value} {Q : Value → Shared → Prop} (ht : IsTup s.heap t vs.toArray) (hb : IsTup s.heap b us.toArray) (h0 : vs = [] → Q (.ref b) s) (h1 : vs ≠ [] → us = [] → Q (.ref t) s)
    (h2 : vs ≠ [] → us ≠ [] → Q (.ref s.heap.objs.size) { s with heap := s.heap.push { cls := .type "tuple", data := .seq (vs ++ us).toArray } }) (hsz : vs.length + us.length ≤ sizeLine) : wpAny (model prog w) A (inplaceOp .Add (.ref t) (.ref b)) Q E s := by
  obtain ⟨⟨c1, d1, e1, s1⟩, o1, q1, n1, r1⟩ := id ht
  obtain ⟨⟨c2, d2, e2, s2⟩, o2, q2, n2, r2⟩ := id hb
  simp only at q1 r1 q2 r2
  subst q1 r1 q2 r2
  refine inplaceOp_concat ⟨_, o1, rfl⟩ ⟨_, o2, rfl⟩ no_iadd_tuple noFill_tuple_add seq_tuple_add ?_
  by_cases hv : vs = []
  · exact call_meets PySem.F.slot_tuple_add ⟨_, o1, rfl⟩ PySem.F.entry_tuple_add (PySem.F.args_tuple_add_2 _ _) (tuple_addW0 t b vs.toArray us.toArray n1 n2 d1 d2 s1 s2 (by simp [hv])) ⟨o1, o2, h0 hv⟩
  · by_cases hu : us = []
    · exact call_meets PySem.F.slot_tuple_add ⟨_, o1, rfl⟩ PySem.F.entry_tuple_add (PySem.F.args_tuple_add_2 _ _) (tuple_addW1 t b vs.toArray us.toArray n1 n2 d1 d2 s1 s2 (by simpa using hv) (by simp [hu])) ⟨o1, o2, h1 hv hu⟩
    · refine call_meets PySem.F.slot_tuple_add ⟨_, o1, rfl⟩ PySem.F.entry_tuple_add (PySem.F.args_tuple_add_2 _ _)
        (tuple_addW2 t b vs.toArray us.toArray n1 n2 d1 d2 s1 s2 (by simpa using hv) (by simpa using hu) (by rw [List.size_toArray, List.size_toArray]; exact hsz)) ⟨o1, o2, ?_⟩
      rw [show vs.toArray ++ us.toArray = (vs ++ us).toArray by simp]
      exact h2 hv hu
end
theorem iop_tup {X : Cx} : OpR X (inplaceOp .Add) (rCatA X.K) := fun pins s σ H x y v u Q I rx ry ⟨a, b, xs, ys, e1, e2, ha, hb, hz, q0, q1, q2⟩ => by
  subst e1 e2
  obtain rfl : v = Value.ref a := rx
  obtain rfl : u = Value.ref b := ry
  obtain ⟨its, r1, p1, _⟩ := I.tuple ha
  obtain ⟨jts, r2, p2, _⟩ := I.tuple hb
  refine iadd_tuples p1 p2 (fun z => ⟨.ref b, H, I, rfl, q0 (r1.nil_iff.mp z)⟩) (fun z1 z2 => ⟨.ref a, H, I, rfl, q1 (fun z => z1 (r1.nil_iff.mpr z)) (r2.nil_iff.mp z2)⟩) (fun z1 z2 => ?_) (by rw [← r1.length, ← r2.length]; exact hz)
  exact ⟨.ref s.heap.objs.size, _, I.laid (t' := s.toks) (o := .tup (xs ++ ys)) (fun _ _ q => Heap.get?_push_of_some _ q) (Nat.le_refl _) ⟨by rw [List.length_append]; exact hz, _, r1.append r2, IsTup.new _ _⟩, rfl, q2 (fun z => z1 (r1.nil_iff.mpr z)) (fun z => z2 (r2.nil_iff.mpr z)) _ (I.hok.fresh (Nat.le_refl _))⟩
/-- x += y; a list must be owned -/
def iaddV (x y : D) (S : Sto) : Option (D × Sto) := match x, y with
  | .int i, .int j => some (.int (i + j), S)
  | .str a, .str b => if a.length + b.length ≤ big then some (.str (a ++ b), S) else none
  | .tup a, .tup b => if a.length + b.length ≤ big then some (.tup (a ++ b), S) else none
  | x, y => match ownL S x, lstOf S y with
    | some (n, a), some b => if a.length + b.length ≤ big then some (x, S.set n (.lst (a ++ b))) else none
    | _, _ => none
def rIAdd (K : PySem.W.Frag) : R2 := fun x y H Q => rI0 (fun i j => .int (i + j)) x y H Q ∨ (∃ i j, x = .str i ∧ y = .str j ∧ i.length + j.length ≤ sizeLine ∧ Q (.str (i ++ j)) H) ∨ rCatA K x y H Q ∨ rExt2 x y H Q
theorem iop_addV {X : Cx} : OpR X (inplaceOp .Add) (rIAdd X.K) := iop_add.or (iop_add_str.or (iop_tup.or iop_ext))
theorem opd_iadd {K : PySem.W.Frag} : OpD K (rIAdd K) iaddV := fun x y d S S' w H u v Q h r hx hy q => by
  unfold iaddV at h
  split at h
  · cases h
    exact .inl ⟨_, _, hx, hy, q w H _ Wd.Le.rfl r rfl⟩
  · obtain ⟨hl, e⟩ := some_if h
    cases e
    exact .inr (.inl ⟨_, _, hx, hy, big_line hl, q w H _ Wd.Le.rfl r rfl⟩)
  · rename_i a b
    obtain ⟨hl, e⟩ := some_if h
    cases e
    obtain ⟨p, xs, e1, h1, h2⟩ := hx
    obtain ⟨p2, ys, e3, h3, h4⟩ := hy
    subst e1 e3
    refine .inr (.inr (.inl ⟨p, p2, xs, ys, rfl, rfl, r.sqT h1, r.sqT h3, big_line (by rw [h2.len, h4.len]; exact hl), fun z => ?_, fun _ z => ?_, fun _ _ z hz => new_tup' r hz (h2.append h4) q⟩))
    · have ea := (dats_nil_iff h2).mpr z
      subst ea
      exact q w H _ Wd.Le.rfl r ⟨p2, ys, rfl, h3, h4⟩
    · have eb := (dats_nil_iff h4).mpr z
      subst eb
      rw [List.append_nil] at q
      exact q w H _ Wd.Le.rfl r ⟨p, xs, rfl, h1, h2⟩
  · split at h
    · rename_i n a b ha hb
      obtain ⟨hl, e⟩ := some_if h
      cases e
      obtain ⟨e2, h2, zs, h3, h4⟩ := ownL_at r hx ha
      obtain ⟨p, ys, e5, h5, h6⟩ := lstOf_at r hy hb
      refine .inr (.inr (.inr ⟨_, p, zs, ys, e2, e5, h3, h5, big_line (by rw [h4.len, h6.len]; exact hl), ?_⟩))
      rw [← e2]
      exact wr_lst r h2 (h4.append h6) hx q
    · cases h
def isubV (x y : D) (S : Sto) : Option (D × Sto) := subV x y S
section
variable {X : Cx} {W : WX} {pos apos : Pos} {k : Nat} {o a b c e : Expr} {es : List Expr} {A B C : DE} {L : DA}
theorem sv_iadd {i : Nat} {x : Str} {pos' : Pos} (hN : X.N.Nodup) (ha : Ev X W e A) (hi : X.N[i]? = some x := by rfl) (hx : Loc X.env.scope x := by first | exact Or.inl rfl | exact Or.inr rfl)
    (hf : X.fn x = true ∨ X.env.scope.names.lookup x = some .local := by first | exact .inl rfl | exact .inr rfl) : Sv X W (.AugAssign (.Name x pos') .Add e pos) (dAug i iaddV A) := sv_aug hN iop_addV opd_iadd ha hi hx hf
theorem sv_isub {i : Nat} {x : Str} {pos' : Pos} (hN : X.N.Nodup) (ha : Ev X W e A) (hi : X.N[i]? = some x := by rfl) (hx : Loc X.env.scope x := by first | exact Or.inl rfl | exact Or.inr rfl)
    (hf : X.fn x = true ∨ X.env.scope.names.lookup x = some .local := by first | exact .inl rfl | exact .inr rfl) : Sv X W (.AugAssign (.Name x pos') .Sub e pos) (dAug i subV A) := sv_aug hN iop_sub opd_sub ha hi hx hf
/-- x + y, a new list that is owned from now on -/
def addVO (x y : D) (S : Sto) : Option (D × Sto) := match lstOf S x, lstOf S y with
  | some a, some b => if a.length + b.length ≤ big then some (.ref S.length, S ++ [.lst (a ++ b)]) else none
  | _, _ => none
theorem opd_addO {K : PySem.W.Frag} : OpD K (rAddV K) addVO := fun x y d S S' w H u v Q h r hx hy q => by
  unfold addVO at h
  split at h
  · rename_i a b ha hb
    obtain ⟨hl, e⟩ := some_if h
    cases e
    obtain ⟨p, xs, e1, h1, h2⟩ := lstOf_at r hx ha
    obtain ⟨p2, ys, e3, h3, h4⟩ := lstOf_at r hy hb
    exact .inr (.inr (.inr ⟨p, p2, xs, ys, e1, e3, h1, h3, big_line (by rw [h2.len, h4.len]; exact hl), fun z hz => own_lst' r hz (h2.append h4) q⟩))
  · cases h
theorem ev_addO (ha : Ev X W a A) (hb : Ev X W b B) : Ev X W (.BinOp a .Add b pos) (dOp addVO A B) := ev_op op_addV opd_addO ha hb

/-! ### repr -/
def fitsR (d : PyData) : Prop := d.showable = true ∧ d.depth ≤ 60 ∧ d.hasDict = false ∧ d.shown.length ≤ big
instance (d : PyData) : Decidable (fitsR d) := inferInstanceAs (Decidable (_ ∧ _))
def reprV (x : D) (S : Sto) : Option (D × Sto) := match x with
  | .int _ => none
  | .str _ => none
  | .bl _ => none
  | .non => none
  | x => match pyS S x with
    | some d => if fitsR d then some (.str d.shown, S) else none
    | none => none
def rRepr (K : PySem.W.Frag) : List V → Hp → VK → Prop := fun xs H Q => ∃ p d, xs = [.ref p] ∧ Dp K H (.ref p) d ∧ fitsR d ∧ Q (.str d.shown) H
theorem call_reprD (h : Rdy X W k) : CallR X (.builtin "repr") (rRepr X.K) := fun pins s σ H xs us Q I r ⟨p, d, e, hd, hf, q⟩ => by
  subst e
  obtain ⟨u, rfl, ru⟩ := vals1 r
  obtain rfl : u = Value.ref p := ru
  obtain ⟨as, rd⟩ := Dp.reads I d _ (.ref p) hd rfl
  have hu := h.u65
  have hdep := hf.2.1
  exact repr_of_reads' rd hf.1 (PyData.noDict_hsm hf.2.2.1) h.gd (by omega) (fun _ _ e => e) (fun h' u tk kk => ⟨.str d.shown, H, I.kept kk, ⟨u, rfl⟩, q⟩) (big_line hf.2.2.2)
theorem b_repr (h : Rdy X W k) : CalR X (.builtin "repr") (g1 reprV) := cal1 (call_reprD h) fun x d S S' w H v Q hg r hx q => by
  have two : (∃ p, v = .ref p) → ∀ d0, pyS S x = some d0 → (if fitsR d0 then some (D.str d0.shown, S) else none) = some (d, S') → rRepr X.K [v] H Q := fun ⟨p, ep⟩ d0 h0 h1 => by
    obtain ⟨hf, e⟩ := some_if h1
    cases e
    subst ep
    exact ⟨p, d0, rfl, pyS_dp r hx h0, hf, q w H _ Wd.Le.rfl r rfl⟩
  have go : (∃ p, v = .ref p) → (match pyS S x with | some d => if fitsR d then some (D.str d.shown, S) else none | none => none) = some (d, S') → rRepr X.K [v] H Q := fun hp h1 => by
    split at h1
    · rename_i d0 h0
      exact two hp d0 h0 h1
    · cases h1
  cases x with
  | tup ds => exact go (by obtain ⟨p, xs, e, _⟩ := hx; exact ⟨p, e⟩) hg
  | lst ds => exact go (by obtain ⟨p, xs, e, _⟩ := hx; exact ⟨p, e⟩) hg
  | ref n => exact go ⟨_, hx.1⟩ hg
  | _ => cases hg
end
end Cw

set_option maxRecDepth 100000
set_option maxHeartbeats 2000000
set_option linter.all false
/-! Targets with a star; dict displays; calls with keywords. -/
namespace Cw
open PySem PySem.Spec PyProof.Rows L2

/-! ### a, *b, c = a list -/
section
variable {prog : Program} {w : World} {A : Around} {E : Value → Shared → Prop} {s : Shared}
/-- the items ahead of the star, a new list of those under it, the items behind it -/
theorem star_list {l : Addr} {its : List Value} {n i : Nat} {Q : List Value → Shared → Prop} (hl : s.heap.IsList l its.toArray) (hh : A.handled = none) (hi : i < n) (hn : n ≤ its.length + 1) (hz : its.length ≤ sizeLine)
    (q : ∀ (h1 : Heap) (tk : Nat), (∀ b o, s.heap.get? b = some o → h1.get? b = some o) →
      Q (its.take i ++ [.ref h1.objs.size] ++ (its.drop i).drop (its.length + 1 - n)) { s with heap := h1.push { cls := .type "list", data := .seq ((its.drop i).take (its.length + 1 - n)).toArray }, toks := tk }) :
    wpAny (model prog w) A (unpackItems (.ref l) n (some i)) Q E s := by
  have size : its.toArray.size = its.length := List.size_toArray ..
  have lt : l < s.heap.objs.size := by
    obtain ⟨o, e, _⟩ := hl
    exact Heap.lt_size e
  have ne : l ≠ s.heap.objs.size := Nat.ne_of_lt lt
  unfold unpackItems
  refine wpAny_bind ?_
  unfold notIterableAtAll
  refine wpAny_bind (wpAny_specialOf hl.typeIs slot_list_iter.lookup (wpAny_pure ?_))
  rw [if_neg (by simp)]
  refine wpAny_bind (wpAny_holding (wpAny_pyIter_list hl (wpAny_bind (wpAny_holding (PySem.W.kun_draw ne i 0 _ _ ⟨_, Heap.get?_push_size _ rfl, rfl, rfl⟩ (hl.push _) (by omega) fun g1 it1 sb1 => ?_)))))
  have l1 : g1.IsList l its.toArray := (hl.push _).extBut sb1.extBut ne
  have it1' : g1.IsListIter s.heap.objs.size l i := by rw [← Nat.zero_add i]; exact it1
  have len1 : (its.take i).length = i := by rw [List.length_take]; omega
  show wpAny _ _ (if ((List.drop 0 its).take i).length < i then _ else _) _ _ _
  rw [List.drop_zero, if_neg (by omega)]
  have itlt : s.heap.objs.size < g1.objs.size := by
    obtain ⟨o, e, _⟩ := it1'
    exact Heap.lt_size e
  have llt : l < g1.objs.size := Nat.lt_trans lt itlt
  refine wpAny_bind (wpAny_holding (PySem.W.kun_collect (s := { s with heap := g1 }) (T := "list_iterator") (.inr (.inr (.inl rfl))) (Walks.list (A := A.in1) hh s.heap.objs.size l ne its.toArray) (fun j u st => st.1.typeIs) (k := i) (by omega) ⟨it1', l1⟩ itlt llt (fun g2 tk kk => ?_) (by omega)))
  have len2 : (its.drop i).length = its.length - i := List.length_drop
  have mid : (its.drop i).length - (n - 1 - i) = its.length + 1 - n := by omega
  show wpAny _ _ (if (its.drop i).length < n - 1 - i then _ else _) _ _ _
  rw [if_neg (by omega)]
  show wpAny _ _ (newList ((its.drop i).take ((its.drop i).length - (n - 1 - i))) >>= fun d => pure (its.take i ++ [d] ++ (its.drop i).drop ((its.drop i).length - (n - 1 - i)))) _ _ _
  rw [mid]
  have keep : ∀ b o, s.heap.get? b = some o → g2.get? b = some o := fun b o e => by
    have hb : b ≠ s.heap.objs.size := Nat.ne_of_lt (Heap.lt_size e)
    exact kk b o hb (sb1.extBut b o hb (Heap.get?_push_of_some _ e))
  exact wpAny_bind (wpAny_newList (s := { s with heap := g2, toks := tk }) (wpAny_pure (q g2 tk keep)) (by rw [List.length_take]; omega))
end
section
variable {X : Cx} {W : WX} {pos apos : Pos} {k : Nat} {o a b c e : Expr} {es : List Expr} {A B C : DE} {L : DA}
/-- a target under the star -/
theorem gsv_star {p : Pos} {ws us : List Nat} {G : DG} {T : DGs} (h1 : Gv X e ws G) (h2 : Gsv X es us T) : Gsv X (.Starred e p :: es) (ws ++ us) (gsCons G T) :=
  ⟨⟨fun pins s σ H vs us Q I r ⟨ds, δ, S, w, δ', rp, he, hd, hg, q⟩ => by
    cases ds with
    | nil => cases hg
    | cons d ds =>
      obtain ⟨v, vr, ev, hv, hvr⟩ := hd
      obtain ⟨δ1, g1, g2⟩ := Option.bind_eq_some_iff.mp hg
      subst ev
      cases r with
      | cons r rr =>
        show wpAny _ _ (assignInOrder (assign e X.env :: (assignEach es X.env).map (·.2)) _) _ _ s
        refine assignInOrder_cons (thn (h1.pg.run pins s σ H _ _ _ I r ⟨d, δ, S, w, δ1, rp, he, hv, g1, fun σ1 w1 H1 e1 r1 he1 b1 => ?_⟩) fun _ s1 ⟨σ1, H1, I1, q1⟩ => h2.pgs.run pins s1 σ1 H1 _ _ Q I1 rr q1)
        exact ⟨ds, δ1, S, w1, δ', r1, he1, hvr.le e1, g2, fun σ2 w2 H2 e2 r2 he2 b2 => q σ2 w2 H2 (e1.trans e2) r2 he2 (b1.trans b2)⟩⟩⟩
def cutStar (n i : Nat) (ds : List D) : List D := ds.take i ++ [.lst ((ds.drop i).take (ds.length + 1 - n))] ++ (ds.drop i).drop (ds.length + 1 - n)
def gStar (n i : Nat) (T : DGs) : DG := fun d δ S => match lsOf S d with | some ds => if n ≤ ds.length + 1 then T (cutStar n i ds) δ S else none | none => none
def tStar (K : PySem.W.Frag) (n i : Nat) (t : TGs) : TG := fun v σ H Q => ∃ a xs, v = .ref a ∧ SqL K H a xs ∧ n ≤ xs.length + 1 ∧ ∀ p, H p = none → t (xs.take i ++ [.ref p] ++ (xs.drop i).drop (xs.length + 1 - n)) σ (upd H p (.lst ((xs.drop i).take (xs.length + 1 - n)))) Q
theorem pg_star {t : TGs} {n i m : Nat} (hc : X.calm = true) (h : PGs X es t) (hi : i < n) (hn : (assignEach es X.env).length = n) (hst : (assignEach es X.env).findIdx? (·.1) = some i) : PG X (.Tuple es m pos) (tStar X.K n i t) := by
  refine ⟨fun pins s σ H v u Q I r ⟨l, xs, ev, hq, hl, q⟩ => ?_⟩
  subst ev
  obtain rfl : u = Value.ref l := r
  obtain ⟨its, rv, pl, hz⟩ := I.list hq
  have len := rv.length
  rw [PyProof.Rows.assign_Tuple]
  refine wpAny_bind (wpAny_standAt ?_)
  unfold unpack
  rw [hn, hst]
  refine wpAny_bind (wpAny_holding (star_list pl.isList (I.ok.hd hc) hi (by omega) (by omega) fun h1 tk kk => ?_))
  have I1 : Inv X pins σ H { s with heap := h1, toks := tk } := I.kept kk
  have small : ((xs.drop i).take (xs.length + 1 - n)).length ≤ sizeLine := by
    rw [List.length_take, List.length_drop]
    omega
  have I2 := I1.lnew (t' := tk) (ys := (xs.drop i).take (xs.length + 1 - n)) ((rv.drop i).take (xs.length + 1 - n)) small
  have e1 : its.length + 1 - n = xs.length + 1 - n := by omega
  rw [e1]
  exact h.run pins _ σ _ _ _ Q I2 (((rv.take i).append (.cons (show RelV (.ref h1.objs.size) (.ref h1.objs.size) from rfl) .nil)).append ((rv.drop i).drop _)) (q h1.objs.size (I1.hok.fresh (Nat.le_refl _)))
theorem gv_star {n i m : Nat} {ws : List Nat} {T : DGs} (hc : X.calm = true) (h : Gsv X es ws T) (hi : i < n := by decide) (hn : (assignEach es X.env).length = n := by rfl) (hst : (assignEach es X.env).findIdx? (·.1) = some i := by rfl) : Gv X (.Tuple es m pos) ws (gStar n i T) :=
  ⟨pg_imp (pg_star hc h.pgs hi hn hst) fun v σ H Q ⟨d, δ, S, w, δ', r, he, hd, hg, kk⟩ => by
    unfold gStar at hg
    cases q : lsOf S d with
    | none => rw [q] at hg; cases hg
    | some ds =>
      rw [q] at hg
      obtain ⟨p, xs, e, h1, h2⟩ := lsOf_at r hd q
      have hg' : (if n ≤ ds.length + 1 then T (cutStar n i ds) δ S else none) = some δ' := hg
      by_cases hl : n ≤ ds.length + 1
      · rw [if_pos hl] at hg'
        refine ⟨p, xs, e, h1, by rw [h2.len]; exact hl, fun z hz => ?_⟩
        obtain ⟨z1, z2, z3⟩ := new_lst r hz ((h2.drop i).take (xs.length + 1 - n))
        rw [h2.len] at z1 z2 z3 ⊢
        refine ⟨cutStar n i ds, δ, S, _, δ', z2, he.le z1, ?_, hg', fun σ' w' H' e' => kk σ' w' H' (z1.trans e')⟩
        exact (((h2.take i).le z1).append (Dats.cons z3 Dats.nil)).append (((h2.drop i).drop _).le z1)
      · rw [if_neg hl] at hg'
        cases hg'⟩

/-! ### {k: v, ..} -/
def DatP (K : PySem.W.Frag) (w : Wd) (xs : List (D × D)) (vs : List (V × V)) : Prop := Dats K w (xs.map (·.1)) (vs.map (·.1)) ∧ Dats K w (xs.map (·.2)) (vs.map (·.2))
def dPs : List (DE × DE) → Env → Sto → Option (Out (List (D × D)))
  | [], _, S => some (.ok [] S)
  | (A, B) :: r, δ, S => bnd (A δ S) fun x S1 => bnd (B δ S1) fun y S2 => bnd (dPs r δ S2) fun ps S3 => some (.ok ((x, y) :: ps) S3)
structure Pv (X : Cx) (W : WX) (pos : Pos) (keys : List (Option Expr)) (values : List Expr) (ps : List (DE × DE)) : Prop where
  ex : ∃ trs, PPs X pos keys values trs ∧ ∀ σ H Q, (∃ δ S w, Rep X.K S w H ∧ EnvOk X.K w σ δ ∧ Po X.K W σ w (dPs ps δ S) (fun xs _ w' H' => ∀ vs, DatP X.K w' xs vs → Q vs H')) → tPairs trs σ H Q
theorem pv_nil : Pv X W pos [] [] [] := ⟨_, pps_nil, fun σ H Q ⟨δ, S, w, r, he, p⟩ => p w H Wd.Le.rfl r [] ⟨Dats.nil, Dats.nil⟩⟩
theorem pv_cons {ks : List (Option Expr)} {vs : List Expr} {ps : List (DE × DE)} (ha : Ev X W a A) (hb : Ev X W b B) (h : Pv X W pos ks vs ps) : Pv X W pos (some a :: ks) (b :: vs) ((A, B) :: ps) := by
  obtain ⟨trs, h1, h2⟩ := h.ex
  refine ⟨_, pps_cons ha.pe hb.pe h1, fun σ H Q ⟨δ, S, w, r, he, p⟩ => ⟨δ, S, w, r, he, (show Po X.K W σ w (bnd (A δ S) fun x S1 => bnd (B δ S1) fun y S2 => bnd (dPs ps δ S2) fun ps S3 => some (.ok ((x, y) :: ps) S3)) _ from p).bnd.mono fun x S1 w1 H1 e1 r1 p1 u hu => ?_⟩⟩
  refine ⟨δ, S1, w1, r1, he.le e1, p1.bnd.mono fun y S2 w2 H2 e2 r2 p2 v hv => ?_⟩
  refine h2 σ H2 _ ⟨δ, S2, w2, r2, (he.le e1).le e2, p2.bnd.mono fun xs S3 w3 H3 e3 r3 p3 us hus => ?_⟩
  exact p3 w3 H3 Wd.Le.rfl r3 _ ⟨Dats.cons ((hu.le e2).le e3) hus.1, Dats.cons (hv.le e3) hus.2⟩
/-- keys that are ints or texts -/
def keyed : List (D × D) → Option (List (Key × D))
  | [] => some []
  | (x, y) :: ps => match kOf x, keyed ps with
    | some k, some ks => some ((k, y) :: ks)
    | _, _ => none
theorem keyed_ok {K : PySem.W.Frag} {w : Wd} : ∀ {xs : List (D × D)} {vs : List (V × V)} {ks : List (Key × D)}, DatP K w xs vs → keyed xs = some ks → ∃ kvs : List (Key × V), vs = kvs.map (fun kv => (kV kv.1, kv.2)) ∧ DatA K w ks kvs ∧ kvs.length = xs.length
  | [], vs, ks, ⟨h1, _⟩, e => by
    cases e
    have z : vs = [] := List.map_eq_nil_iff.mp h1
    exact ⟨[], z, DatA.nil, rfl⟩
  | (x, y) :: xs, [], ks, ⟨h1, _⟩, e => by
    obtain ⟨_, _, q, _⟩ := h1
    cases q
  | (x, y) :: xs, (u, v) :: vs, ks, ⟨h1, h2⟩, e => by
    obtain ⟨u', us, q1, hu, hus⟩ := h1
    obtain ⟨v', vs', q2, hv, hvs⟩ := h2
    cases q1
    cases q2
    have e' : (match kOf x, keyed xs with | some k, some ks => some ((k, y) :: ks) | _, _ => none) = some ks := e
    cases c1 : kOf x with
    | none => rw [c1] at e'; cases e'
    | some k =>
      cases c2 : keyed xs with
      | none => rw [c1, c2] at e'; cases e'
      | some ks' =>
        rw [c1, c2] at e'
        cases e'
        obtain ⟨kvs, f1, f2, f3⟩ := keyed_ok (xs := xs) (vs := vs) ⟨hus, hvs⟩ c2
        have hu' : u = kV k := kOf_at hu c1
        exact ⟨(k, v) :: kvs, by rw [List.map_cons, ← f1, hu'], ⟨v, kvs, rfl, hv, f2⟩, by rw [List.length_cons, List.length_cons, f3]⟩
def laid (ks : List (Key × D)) : List (Key × D) := ks.foldl (fun acc kv => putA acc kv.1 kv.2) []
theorem laid_ok {K : PySem.W.Frag} {w : Wd} : ∀ {ks acc : List (Key × D)} {kvs acv : List (Key × V)}, DatA K w ks kvs → DatA K w acc acv → DatA K w (ks.foldl (fun acc kv => putA acc kv.1 kv.2) acc) (mergeK acv kvs)
  | [], acc, kvs, acv, h, t => by
    rw [show kvs = [] from h]
    exact t
  | (k, d) :: ks, acc, kvs, acv, ⟨v, vs, e, h1, h2⟩, t => by
    subst e
    exact laid_ok (ks := ks) (kvs := vs) (acv := putK acv k v) h2 (t.put h1)
def dDic (ps : List (DE × DE)) : DE := fun δ S => bndL (dPs ps δ S) fun xs S1 => match keyed xs with
  | some ks => some (.ok (.ref S1.length) (S1 ++ [.dic (laid ks)]))
  | none => none
theorem dPs_len : ∀ {ps : List (DE × DE)} {δ : Env} {S S' : Sto} {xs : List (D × D)}, dPs ps δ S = some (.ok xs S') → xs.length = ps.length
  | [], δ, S, S', xs, e => by
    cases e
    rfl
  | (A, B) :: ps, δ, S, S', xs, e => by
    have e' : (bnd (A δ S) fun x S1 => bnd (B δ S1) fun y S2 => bnd (dPs ps δ S2) fun ps S3 => some (.ok ((x, y) :: ps) S3)) = some (.ok xs S') := e
    cases c1 : A δ S with
    | none => rw [c1] at e'; cases e'
    | some o1 =>
      cases o1 with
      | exc x S1 => rw [c1] at e'; cases e'
      | ok x S1 =>
        rw [c1, bnd_ok] at e'
        cases c2 : B δ S1 with
        | none => rw [c2] at e'; cases e'
        | some o2 =>
          cases o2 with
          | exc x S2 => rw [c2] at e'; cases e'
          | ok y S2 =>
            rw [c2, bnd_ok] at e'
            cases c3 : dPs ps δ S2 with
            | none => rw [c3] at e'; cases e'
            | some o3 =>
              cases o3 with
              | exc x S3 => rw [c3] at e'; cases e'
              | ok zs S3 =>
                rw [c3, bnd_ok] at e'
                cases e'
                rw [List.length_cons, List.length_cons, dPs_len c3]
/-- the framed object is owned from now on, as something else -/
theorem Rep.adoptO {K : PySem.W.Frag} {S : Sto} {w : Wd} {H : Hp} {p : Addr} {o : HO} {ob : Ob} (r : Rep K S w H) (hp : w.F p = some o) (h1 : ObAt K w H p ob) {F : Hp} (hF : ∀ b, b ≠ p → w.F b = F b) (h0 : F p = none) : Rep K (S ++ [ob]) (w.adopt p F) H := by
  obtain ⟨_, h2, h3⟩ := r.frm p _ hp
  have low : ∀ j, j < w.n → (w.adopt p F).a j = w.a j := fun j hj => if_neg (Nat.ne_of_lt hj)
  have top : (w.adopt p F).a w.n = p := if_pos rfl
  have kn : w.Kn (w.adopt p F) := ⟨fun _ _ e => e, Nat.le_succ _, low⟩
  refine ⟨r.sub, by show w.n + 1 = _; rw [List.length_append, r.len]; rfl, fun j oj e => ?_, fun i j hi hj e => ?_, fun b u e => ?_⟩
  · rcases Nat.lt_or_ge j S.length with hj | hj
    · rw [List.getElem?_append_left hj] at e
      obtain ⟨g1, g2⟩ := r.obs j oj e
      rw [low j (by rw [r.len]; exact hj)]
      exact ⟨g1, g2.kn kn rfl⟩
    · have hj2 := (List.getElem?_eq_some_iff.mp e).1
      rw [List.length_append, List.length_singleton] at hj2
      obtain rfl : j = S.length := by omega
      rw [List.getElem?_append_right (Nat.le_refl _), Nat.sub_self] at e
      obtain rfl : ob = oj := by simpa using e
      rw [← r.len, top]
      exact ⟨h2, h1.kn kn rfl⟩
  · have hi' : i < w.n + 1 := hi
    have hj' : j < w.n + 1 := hj
    rcases Nat.lt_or_ge i w.n with c1 | c1
    · rcases Nat.lt_or_ge j w.n with c2 | c2
      · rw [low i c1, low j c2] at e
        exact r.inj i j c1 c2 e
      · obtain rfl : j = w.n := by omega
        rw [low i c1, top] at e
        exact absurd e (h3 i c1)
    · obtain rfl : i = w.n := by omega
      rcases Nat.lt_or_ge j w.n with c2 | c2
      · rw [low j c2, top] at e
        exact absurd e.symm (h3 j c2)
      · omega
  · have e' : F b = some u := e
    have hb : b ≠ p := fun q => by
      rw [q, h0] at e'
      cases e'
    obtain ⟨h4, h5, h6⟩ := r.frm b u ((hF b hb).trans e')
    refine ⟨h4, h5, fun j hj => ?_⟩
    have hj' : j < w.n + 1 := hj
    rcases Nat.lt_or_ge j w.n with c1 | c1
    · rw [low j c1]
      exact h6 j c1
    · obtain rfl : j = w.n := by omega
      rw [top]
      exact hb.symm
theorem ev_dic {keys : List (Option Expr)} {values : List Expr} {ps : List (DE × DE)} (h : Pv X W pos keys values ps) (hall : keys.all (·.isSome) = true := by rfl) (hl : keys.length = values.length := by rfl) (h0 : keys ≠ [] := by exact List.cons_ne_nil _ _) (h15 : keys.length ≤ 15 := by decide) (hp : ps.length ≤ 15 := by decide) : Ev X W (.Dict keys values pos) (dDic ps) := by
  obtain ⟨trs, g1, g2⟩ := h.ex
  refine ⟨pe_imp (pe_disp g1 hall hl h0 h15) fun σ H Q ⟨δ, S, w, r, he, p⟩ z hz => ?_⟩
  have zF : w.F z = none := by
    cases q : w.F z with
    | none => rfl
    | some o =>
      have := (r.frm z o q).1
      rw [hz] at this
      cases this
  have kn0 : w.Kn (w.frame z (.dK [])) := ⟨fun _ _ e => e, Nat.le_refl _, fun _ _ => rfl⟩
  have back : ∀ {w2 : Wd}, (w.frame z (.dK [])).Le w2 → w.Kn w2 := fun e => ⟨e.h, e.n, e.a⟩
  cases q : dPs ps δ S with
  | none =>
    unfold dDic at p
    rw [q] at p
    exact p.elim
  | some out =>
    cases out with
    | exc x S1 =>
      unfold dDic at p
      rw [q] at p
      exact p.elim
    | ok xs S1 =>
      have p' : Po X.K W σ w (match keyed xs with
        | some ks => some (Out.ok (D.ref S1.length) (S1 ++ [.dic (laid ks)]))
        | none => none) (Got X.K Q) := by
        unfold dDic at p
        rw [q] at p
        exact p
      refine g2 σ _ _ ⟨δ, S, w.frame z (.dK []), r.frame hz _, he.kn kn0, ?_⟩
      rw [q]
      intro w1 H1 e1 r1 vs hvs
      have F1 : w1.F z = some (.dK []) := by
        rw [e1.f]
        show upd w.F z _ z = _
        rw [upd_same]
      refine ⟨(r1.frm z _ F1).1, ?_⟩
      cases hk : keyed xs with
      | none =>
        rw [hk] at p'
        exact p'.elim
      | some ks =>
        rw [hk] at p'
        obtain ⟨kvs, f1, f2, f3⟩ := keyed_ok hvs hk
        refine ⟨kvs, f1, by rw [f3, dPs_len q]; exact hp, ?_⟩
        have r2 := r1.framed F1 (o' := .dK (mergeK [] kvs))
        have F2 : (w1.frame z (.dK (mergeK [] kvs))).F z = some (.dK (mergeK [] kvs)) := upd_same
        have kn1 : w1.Kn (w1.frame z (.dK (mergeK [] kvs))) := ⟨fun _ _ e => e, Nat.le_refl _, fun _ _ => rfl⟩
        have r3 := r2.adoptO (ob := .dic (laid ks)) F2 ⟨_, upd_same, (laid_ok f2 DatA.nil).kn kn1⟩ (F := w.F) (fun b hb => by
          show upd w1.F z _ b = _
          rw [upd_ne hb, e1.f]
          show upd w.F z _ b = _
          rw [upd_ne hb]) zF
        refine p' ((w1.frame z (.dK (mergeK [] kvs))).adopt z w.F) _ ⟨e1.h, Nat.le_trans e1.n (Nat.le_succ _), fun j hj => ?_, rfl⟩ r3 _ ⟨?_, ?_⟩
        · show (if j = w1.n then z else w1.a j) = w.a j
          rw [if_neg (Nat.ne_of_lt (Nat.lt_of_lt_of_le hj e1.n))]
          exact e1.a j hj
        · show V.ref z = V.ref (if S1.length = w1.n then z else w1.a S1.length)
          rw [if_pos r1.len.symm]
        · show S1.length < w1.n + 1
          rw [r1.len]
          exact Nat.lt_succ_self _

/-! ### f(e, .., k = e, ..) -/
structure Kv (X : Cx) (W : WX) (kws : List Keyword) (A : DA) : Prop where
  pk : PK X kws (TAv X.K W A)
theorem pk_imp {kws : List Keyword} {t t' : TA} (h : PK X kws t) (g : ∀ σ H Q, t' σ H Q → t σ H Q) : PK X kws t' := ⟨fun pos pins s σ H Q I q => h.run pos pins s σ H Q I (g σ H Q q)⟩
theorem kv_nil : Kv X W [] aNil := ⟨pk_imp pk_nil fun σ H Q ⟨δ, S, w, r, he, p⟩ => p w H Wd.Le.rfl r [] rfl⟩
theorem kv_cons {kws : List Keyword} {nm : Option Str} {kp : Pos} {T : DA} (h : Ev X W a A) (t : Kv X W kws T) : Kv X W (⟨nm, a, kp⟩ :: kws) (aCons A T) :=
  ⟨pk_imp (pk_cons h.pe t.pk) fun σ H Q ⟨δ, S, w, r, he, p⟩ => ⟨δ, S, w, r, he, p.bnd.mono fun x S1 w1 H1 e1 r1 p1 v hv =>
    ⟨δ, S1, w1, r1, he.le e1, p1.bnd.mono fun xs S2 w2 H2 e2 r2 p2 vs hvs => p2 w2 H2 Wd.Le.rfl r2 _ (Dats.cons (hv.le e2) hvs)⟩⟩⟩
/-- n written values, m by name; gD puts them in the parameters' order -/
def dCallK (F : Fn) (n m l : Nat) (gD : List D → List D → List D) (A T : DA) : DE := fun δ S => bnd (A δ S) fun xs S1 => bnd (T δ S1) fun zs S2 => if xs.length = n ∧ zs.length = m ∧ (gD xs zs).length = l then F (gD xs zs) S2 else none
theorem ev_callK {f : Addr} {fd : FuncData} {ps ks : List Str} {F : Fn} {x : Str} {p : Pos} {n : Nat} {kws : List Keyword} {gD : List D → List D → List D} {gu : List Value → List Value → List Value} {gV : List V → List V → List V} {T : DA} (g : GnOk X.prog X.w X.K X.mg X.base k f fd ps F) (hr : Rdy X W k) (hg : Gl X x) (hm : X.mg x = some (.ref f)) (hk : PySem.W.keepIn X.K (.ref f) = true)
    (hb : KBn X.K fd ps n ks gu gV) (hd : ∀ w xs zs vs us, Dats X.K w xs vs → Dats X.K w zs us → Dats X.K w (gD xs zs) (gV vs us)) (ha : Av X W (e :: es) L) (hkw : Kv X W kws T) (hall : (backToKw pos (keywordEach kws X.env)).all (·.1.isSome) = true := by rfl) (hks : (backToKw pos (keywordEach kws X.env)).filterMap (·.1) = ks := by rfl)
    (hdb : (x == ("__debug__" : Str)) = false := by decide) (he : starEach (e :: es) X.env = (false, eval e X.env) :: starEach es X.env := by rfl)
    (hpl : ((backTo pos (starEach (e :: es) X.env)).any (·.1) || (backToKw pos (keywordEach kws X.env)).any (·.1.isNone)) = false := by rfl) : Ev X W (.Call (.Name x p) (e :: es) kws pos) (dCallK F n ks.length ps.length gD L T) := ⟨⟨fun pins s σ H Q I ⟨δ, S, w, r, he', q⟩ => by
  refine wpAny_Call_Name_kw (ld_glob I hg hm ?_ hdb)
  refine PySem.W.callWith_KW (h₀ := X.base) I.ok.mod.kin hk hall (thn (ha.pa.run pos pins s σ H (fun vs H1 => ∃ xs S1 w1, Rep X.K S1 w1 H1 ∧ Dats X.K w1 xs vs ∧ EnvOk X.K w1 σ δ ∧ Po X.K W σ w1 (bnd (T δ S1) fun zs S2 => if xs.length = n ∧ zs.length = ks.length ∧ (gD xs zs).length = ps.length then F (gD xs zs) S2 else none) (Got X.K Q)) I
    ⟨δ, S, w, r, he', q.bnd.mono fun xs S1 w1 H1 e1 r1 p1 vs hvs => ⟨xs, S1, w1, r1, hvs, he'.le e1, p1⟩⟩) fun us s1 ⟨vs, H1, I1, rv, xs, S1, w1, r1, hvs, he1, p1⟩ => ?_) hpl he
  refine thn (hkw.pk.run pos pins s1 σ H1 (fun zs H2 => ∃ ds S2 w2, Rep X.K S2 w2 H2 ∧ Dats X.K w2 ds zs ∧ w1.Le w2 ∧ Po X.K W σ w2 (if xs.length = n ∧ ds.length = ks.length ∧ (gD xs ds).length = ps.length then F (gD xs ds) S2 else none) (Got X.K Q)) I1
    ⟨δ, S1, w1, r1, he1, p1.bnd.mono fun ds S2 w2 H2 e2 r2 p2 zs hzs => ⟨ds, S2, w2, r2, hzs, e2, p2⟩⟩) fun ws s2 ⟨zs, H2, I2, rz, ds, S2, w2, r2, hds, e2, p2⟩ => ⟨I2.kIn, ?_⟩
  rw [hks]
  by_cases hl : xs.length = n ∧ ds.length = ks.length ∧ (gD xs ds).length = ps.length
  · rw [if_pos hl] at p2
    have b := hb.to s2 us ws I2.kIn (by rw [← rv.length, hvs.len]; exact hl.1) (by rw [← rz.length, hds.len]; exact hl.2.1)
    refine wpAny_call (codeAny_mono (run_g (R := Got X.K Q) g hr I2 b (hb.rel rv rz) hl.2.2 r2 (hd _ _ _ _ _ (hvs.le e2) hds) p2) fun rr s' hq => ?_)
    cases rr with
    | error e => exact hq
    | ok fl =>
      cases fl with
      | ret u => exact hq
      | _ => exact False.elim hq
  · rw [if_neg hl] at p2
    exact p2.elim⟩⟩
/-- all keyword-only parameters written, in their order, behind the others -/
theorem kbn_tail {K : PySem.W.Frag} {fd : FuncData} {ps ks : List Str} {n : Nat} (h : ∀ (s : Shared) (us ws : List Value), us.length = n → ws.length = ks.length → BindsTo s fd ⟨us, ks.zip ws⟩ (ps.zip (us ++ ws))) : KBn K fd ps n ks (· ++ ·) (· ++ ·) :=
  ⟨fun s us ws _ => h s us ws, fun r q => r.append q⟩
theorem dats_tail {K : PySem.W.Frag} : ∀ w xs zs vs us, Dats K w xs vs → Dats K w zs us → Dats K w (xs ++ zs) (vs ++ us) := fun _ _ _ _ _ h t => h.append t
end
end Cw

set_option maxRecDepth 100000
set_option maxHeartbeats 2000000
set_option linter.all false
/-! How many distinct: len(set(t)), len({e for .. in ..}). -/
namespace Cw
open PySem PySem.Spec PyProof.Rows L2

/-! ### distinct ones -/
def uniq {α : Type} [DecidableEq α] : List α → List α
  | [] => []
  | x :: xs => if x ∈ xs then uniq xs else x :: uniq xs
section
variable {α : Type} [DecidableEq α]
theorem mem_uniq {k : α} : ∀ xs : List α, k ∈ uniq xs ↔ k ∈ xs
  | [] => Iff.rfl
  | x :: xs => by
    unfold uniq
    by_cases h : x ∈ xs
    · rw [if_pos h, mem_uniq xs, List.mem_cons]
      exact ⟨.inr, fun q => q.elim (fun e => e ▸ h) id⟩
    · rw [if_neg h, List.mem_cons, List.mem_cons, mem_uniq xs]
theorem uniq_nodup : ∀ xs : List α, (uniq xs).Nodup
  | [] => List.Pairwise.nil
  | x :: xs => by
    unfold uniq
    by_cases h : x ∈ xs
    · rw [if_pos h]
      exact uniq_nodup xs
    · rw [if_neg h]
      exact List.nodup_cons.mpr ⟨fun q => h ((mem_uniq xs).mp q), uniq_nodup xs⟩
theorem sub_len : ∀ {xs ys : List α}, xs.Nodup → (∀ k ∈ xs, k ∈ ys) → xs.length ≤ ys.length
  | [], _, _, _ => Nat.zero_le _
  | x :: xs, ys, hn, h => by
    obtain ⟨h1, h2⟩ := List.nodup_cons.mp hn
    have hx : x ∈ ys := h x List.mem_cons_self
    have ih := sub_len (xs := xs) (ys := ys.erase x) h2 fun k hk => (List.mem_erase_of_ne (by intro e; rw [e] at hk; exact h1 hk)).mpr (h k (List.mem_cons_of_mem _ hk))
    rw [List.length_erase_of_mem hx] at ih
    have : 0 < ys.length := List.length_pos_of_mem hx
    rw [List.length_cons]
    omega
theorem same_len {xs ys : List α} (h1 : xs.Nodup) (h2 : ys.Nodup) (h : ∀ k, k ∈ xs ↔ k ∈ ys) : xs.length = ys.length :=
  Nat.le_antisymm (sub_len h1 fun k hk => (h k).mp hk) (sub_len h2 fun k hk => (h k).mpr hk)
theorem uniq_le : ∀ xs : List α, (uniq xs).length ≤ xs.length
  | [] => Nat.le_refl _
  | x :: xs => by
    have := uniq_le xs
    unfold uniq
    split
    · rw [List.length_cons]; omega
    · rw [List.length_cons, List.length_cons]; omega
theorem uniq_len : ∀ xs : List α, (uniq xs).length = xs.length ↔ xs.Nodup
  | [] => ⟨fun _ => List.Pairwise.nil, fun _ => rfl⟩
  | x :: xs => by
    have ih := uniq_len xs
    have le := uniq_le xs
    rw [List.nodup_cons]
    unfold uniq
    by_cases h : x ∈ xs
    · rw [if_pos h, List.length_cons]
      exact ⟨fun q => by omega, fun q => absurd h q.1⟩
    · rw [if_neg h, List.length_cons, List.length_cons, ← ih]
      exact ⟨fun q => ⟨h, by omega⟩, fun q => by omega⟩
end
theorem Rep.junk {K : PySem.W.Frag} {S : Sto} {w : Wd} {H : Hp} {p : Addr} (r : Rep K S w H) (hp : H p = none) (o : HO) : Rep K S w (upd H p o) :=
  ⟨fun b u e => by
    have := r.sub b u e
    rw [upd_ne (ne_of_none this hp)]
    exact this, r.len, fun k ob e => by
    obtain ⟨h1, h2⟩ := r.obs k ob e
    have hk : k < w.n := by
      rw [r.len]
      exact (List.getElem?_eq_some_iff.mp e).1
    exact ⟨h1, h2.kn ⟨fun _ _ e => e, Nat.le_refl _, fun _ _ => rfl⟩ (upd_ne (r.ne hp hk))⟩, r.inj, fun b u e => by
    obtain ⟨h1, h2, h3⟩ := r.frm b u e
    exact ⟨by rw [upd_ne (ne_of_none h1 hp)]; exact h1, h2, h3⟩⟩
theorem Rep.rejunk {K : PySem.W.Frag} {S : Sto} {w : Wd} {H : Hp} {p : Addr} (r : Rep K S w H) (h1 : w.H p = none) (h2 : w.F p = none) (h3 : ∀ k, k < w.n → w.a k ≠ p) (o : HO) : Rep K S w (upd H p o) :=
  ⟨fun b u e => by
    rw [upd_ne (ne_of_none e h1)]
    exact r.sub b u e, r.len, fun k ob e => by
    obtain ⟨g1, g2⟩ := r.obs k ob e
    have hk : k < w.n := by
      rw [r.len]
      exact (List.getElem?_eq_some_iff.mp e).1
    exact ⟨g1, g2.kn ⟨fun _ _ e => e, Nat.le_refl _, fun _ _ => rfl⟩ (upd_ne (h3 k hk))⟩, r.inj, fun b u e => by
    obtain ⟨g1, g2, g3⟩ := r.frm b u e
    exact ⟨by rw [upd_ne (ne_of_none e h2)]; exact g1, g2, g3⟩⟩
/-- the ints of a list -/
def intsOf : List D → Option (List Int)
  | [] => some []
  | .int i :: ds => (intsOf ds).map (i :: ·)
  | _ :: _ => none
theorem intsOf_ok {K : PySem.W.Frag} {w : Wd} : ∀ {ds : List D} {vs : List V} {ys : List Int}, Dats K w ds vs → intsOf ds = some ys → vs = ys.map V.int
  | [], _, ys, h, e => by
    cases e
    exact h
  | .int s :: ds, _, ys, ⟨v, vs, h1, h2, h3⟩, e => by
    obtain ⟨cs, h4, h5⟩ := Option.map_eq_some_iff.mp (show (intsOf ds).map (s :: ·) = some ys from e)
    subst h5
    rw [h1, intsOf_ok h3 h4, show v = .int s from h2]
    rfl
  | .non :: _, _, _, _, e => by cases e
  | .bl _ :: _, _, _, _, e => by cases e
  | .str _ :: _, _, _, _, e => by cases e
  | .tup _ :: _, _, _, _, e => by cases e
  | .lst _ :: _, _, _, _, e => by cases e
  | .scr _ :: _, _, _, _, e => by cases e
  | .ref _ :: _, _, _, _, e => by cases e
  | .fn _ :: _, _, _, _, e => by cases e
  | .ty _ :: _, _, _, _, e => by cases e
theorem ints_vals : ∀ {ns : List Int} {us : List Value}, Vals (ns.map V.int) us → IntsAre us ns
  | [], _, .nil => .nil
  | n :: ns, _, .cons r t => by
    obtain ⟨k, rfl⟩ := r
    exact .cons n k (ints_vals t)
section
variable {X : Cx} {W : WX} {pos apos : Pos} {k : Nat} {o a b c e : Expr} {es : List Expr} {A B C : DE} {L : DA}
def lenSet1 (x : D) : Option D := match x with
  | .tup ds => (intsOf ds).bind fun ns => if ns.length ≤ 4000 then some (.int (uniq ns).length) else none
  | _ => none
def dLenSet (A : DE) : DE := fun δ S => bnd (A δ S) fun x S1 => up (lenSet1 x) S1
def tLenSetT (K : PySem.W.Frag) (ta : TE) : TE := fun σ H Q => ta σ H fun x H1 => ∃ (l : Addr) (ns : List Int), x = .ref l ∧ SqT K H1 l (ns.map V.int) ∧ ns.length ≤ 4000 ∧ Q (.int (uniq ns).length) H1
theorem pe_lenSetT {ta : TE} {p p2 q pos : Pos} (hc : X.calm = true) (hg : Gl X "len") (hm : X.mg "len" = none) (hg2 : Gl X "set") (hm2 : X.mg "set" = none) (ha : PE X a ta)
    (na : starEach [a] X.env = (false, eval a X.env) :: starEach [] X.env := by rfl) : PE X (.Call (.Name "len" p) [.Call (.Name "set" p2) [a] [] q] [] pos) (tLenSetT X.K ta) := by
  refine ⟨fun pins s σ H Q I h => Call_ (ld_blt I hg hm PySem.boot_len (PyProof.Rows.callWith_builtin1 (PyProof.Rows.args_cons (Call_ (ld_blt I hg2 hm2 PyProof.Rows.boot_set ?_)) rfl) rfl rfl))⟩
  refine PyProof.Rows.callWith_type1 (PyProof.Rows.args_cons (thn (ha.run pins s σ H _ I h) fun v s1 ⟨x, H1, I1, r1, l, ns, ex, hq, hl, q1⟩ => PyProof.Rows.args_nil ?_) na) na rfl
  subst ex
  obtain rfl : v = Value.ref l := r1
  obtain ⟨its, rv, pl, hz⟩ := I1.tuple hq
  refine call_set_tupI ns (I1.ok.hd hc) pl (by simpa using ints_vals rv) (by unfold scanBound; omega) fun h' tk n hS hn hk => PyProof.Rows.args_nil ?_
  obtain ⟨ob, ents, ep, tb, ho, hex, hd, hgood, hnd, hmem, _, hf, hsz, _⟩ := hS
  have e1 : ents.size = (uniq ns).length := by
    rw [← Array.length_toList, ← List.length_map (as := ents.toList) keyOf]
    exact same_len hnd (uniq_nodup ns) fun k => by rw [← hmem, mem_uniq, decide_eq_true_iff]
  have I2 : Inv X pins σ H1 { s1 with heap := h', toks := tk } := I1.kept hk
  refine call_len_set ho hex hd hf (by omega) ⟨.int (uniq ns).length, H1, I2.tok _, ⟨_, by rw [e1]⟩, q1⟩
theorem ev_lenSet {p p2 q pos : Pos} (hc : X.calm = true) (hg : Gl X "len") (hm : X.mg "len" = none) (hg2 : Gl X "set") (hm2 : X.mg "set" = none) (ha : Ev X W a A)
    (na : starEach [a] X.env = (false, eval a X.env) :: starEach [] X.env := by rfl) : Ev X W (.Call (.Name "len" p) [.Call (.Name "set" p2) [a] [] q] [] pos) (dLenSet A) :=
  ⟨pe_imp (pe_lenSetT hc hg hm hg2 hm2 ha.pe na) fun σ H Q ⟨δ, S, w, r, he, p⟩ => ⟨δ, S, w, r, he, p.bnd.mono fun x S1 w1 H1 e1 r1 p1 v hv => by
    obtain ⟨d, h1, p1⟩ := p1.up r1
    cases x with
    | tup ds =>
      obtain ⟨ns, h2, h3⟩ := Option.bind_eq_some_iff.mp (show ((intsOf ds).bind fun ns => if ns.length ≤ 4000 then some (D.int (uniq ns).length) else none) = some d from h1)
      obtain ⟨hl, e⟩ := some_if h3
      subst e
      obtain ⟨p, xs, e2, h4, h5⟩ := hv
      refine ⟨p, ns, e2, ?_, hl, p1 _ rfl⟩
      rw [← intsOf_ok h5 h2]
      exact r1.sqT h4
    | _ => cases h1⟩⟩

/-! ### len({e for .. in ..}), keys -/
/-- the block's readings: Z the new set's place -/
def tSk (P : Program) (w : World) (wi : TI) (g : TG) (tt : TT) (te : TE) (vs : List Nat) : TE := fun σ H Q => wi σ H fun J H1 => ∀ Z, H1 Z = none → ∃ M : Nat → Nat → Hp → Prop, (∃ m, M 0 m (upd H1 Z (SetK P w Z (fun _ => false) 0))) ∧ ∀ i m H, M i m H →
  (J.stop i H ∧ Q (.ref Z) H) ∨ (J.go i H ∧ ∃ N : Hp → Prop, (∀ H', N H' → ∃ m', m' < m ∧ M (i + 1) m' H') ∧ ∀ x H', J.yld i H x H' → g x (wipe σ vs) H' fun σ2 H2 => wipe σ2 vs = wipe σ vs ∧ tt σ2 H2 fun b H3 =>
    if b = true then te σ2 H3 fun y H4 => ∃ (key : Key) (T : Key → Bool) (n : Nat), y = kV key ∧ H4 Z = some (SetK P w Z T n) ∧ n + 1 < scanBound ∧ N (upd H4 Z (SetK P w Z (fun j => T j || decide (j = key)) (if T key = true then n else n + 1))) else N H3)
theorem setK_fresh {P : Program} (w : World) (h : Heap) : (h.push { cls := .type "set", dict := none, data := .set #[] 0 (.fresh 0 0 (!w.params.followText "set-order")) }).SetOf (mixKind P w) h.objs.size (fun _ => false) 0 :=
  ⟨_, #[], 0, _, Heap.get?_push_size _ rfl, ⟨rfl, rfl, rfl⟩, rfl, (fun e he => by simp at he), (fun k => by simp), (by decide), (by rfl), rfl⟩
theorem addK_ok {pins : List (Addr × Obj)} {σ : L2.St} {H : Hp} {s : Shared} {E : Value → Shared → Prop} {Z : Addr} {T : Key → Bool} {n : Nat} {key : Key} {z : Value} {Q : Value → Shared → Prop} (I : Inv X pins σ H s) (hZ : H Z = some (SetK X.prog X.w Z T n)) (room : n + 1 < scanBound) (r : RelV (kV key) z)
    (h : ∀ s', Inv X pins σ (upd H Z (SetK X.prog X.w Z (fun j => T j || decide (j = key)) (if T key = true then n else n + 1))) s' → Q .none s') : wpAny (model X.prog X.w) X.A (call (.builtin "set.add") [.ref Z, z]) Q E s :=
  call_set_add (kV_is r) (key_scan r) (setK_get I hZ) room fun h' sb new => by
    have there : ∃ u, h'.get? Z = some u := by
      obtain ⟨o, _, _, _, e, _⟩ := id new
      exact ⟨o, e⟩
    exact h _ (I.write (e := Z) (t' := s.toks + 1) (by rw [hZ]; trivial) (.inl rfl) (fun b u hb e => (sb.2 b hb).trans e) there (setK_new new))
theorem pe_sk {elt tg iter : Expr} {ifs : List Expr} {scope : Scope} {own : List (Str × Nat)} {wi : TI} {g : TG} {tt : TT} {te : TE} (hc : X.calm = true) (hN : X.N.Nodup) (hi : PI X tg iter wi) (ok : BlkOk X.N X.env.scope scope own)
    (hg : ∀ (s : Shared) (H : Hp) (C : Addr) (cl : List (Str × Addr)) (fp : List Addr), PG (X.blk s H scope (compEnvC scope cl C X.env) fp) tg g) (ht : ∀ (s : Shared) (H : Hp) (C : Addr) (cl : List (Str × Addr)) (fp : List Addr), PTs (X.blk s H scope (compEnvC scope cl C X.env) fp) ifs tt)
    (hE : ∀ (s : Shared) (H : Hp) (C : Addr) (cl : List (Str × Addr)) (fp : List Addr), PE (X.blk s H scope (compEnvC scope cl C X.env) fp) elt te) (hs : ∀ x, foldedSetIterable iter X.env x = pure x) : PE X (.SetComp elt [⟨tg, iter, ifs, 0⟩] scope pos) (tSk X.prog X.w wi g tt te (own.map (·.2))) := by
  refine ⟨fun pins s σ H Q I h => ?_⟩
  rw [PpSet.eval_SetComp]
  have frees : ∀ y ∈ scope.names, y.2 = .free → ∃ c, X.env.cells.lookup y.1 = some c := fun y hy e => I.ok.has _ ((ok.free y hy e).imp id id)
  refine wpAny_comprehension_free (use := none) rfl hs (closure_ok frees) ok.kind (fun y hy e => by rw [ok.uniq y hy, e]) (thn (hi.run pins s σ H _ I h) fun xv t1 hx => thn hx fun itv t2 ⟨it, fp, tn, J, H2, eit, I2, T, st2, f2, q⟩ => ?_)
  subst eit
  refine PpSet.newSet_ok (newEnv_comp ?_)
  generalize hZ : t2.heap.objs.size = Z
  obtain ⟨M, ⟨m0, begin⟩, turn⟩ := q Z (I2.hok.fresh (Nat.le_of_eq hZ))
  generalize hs3 : ({ t2 with heap := t2.heap.push { cls := .type "set", dict := none, data := .set #[] 0 (.fresh 0 0 (!X.w.params.followText "set-order")) } } : Shared) = s3
  have h3 : s3.heap = t2.heap.push { cls := .type "set", dict := none, data := .set #[] 0 (.fresh 0 0 (!X.w.params.followText "set-order")) } := by rw [← hs3]
  generalize hG : upd H2 Z (SetK X.prog X.w Z (fun _ => false) 0) = G at begin
  have I3 : Inv X pins σ G s3 := by
    rw [← hs3, ← hG]
    refine I2.laid (t' := t2.toks) (fun _ _ e => Heap.get?_push_of_some _ e) (Nat.le_of_eq hZ) ?_
    rw [← hZ]
    exact setK_new (setK_fresh X.w t2.heap)
  have low : ∀ b ∈ fp, b < t2.heap.objs.size := fun b hb => by
    obtain ⟨o, e, _⟩ := T.obj _ _ st2 b hb
    exact Heap.lt_size e
  have f3 : ∀ b ∈ fp, FpOk X pins G b ∧ b < s3.heap.objs.size := fun b hb => by
    have lb := low b hb
    refine ⟨⟨?_, (f2 b hb).2⟩, by rw [h3, Heap.size_push]; exact Nat.lt_succ_of_lt lb⟩
    rw [← hG, upd_ne (by rw [← hZ]; exact Nat.ne_of_lt lb)]
    exact (f2 b hb).1
  have st3 : tn 0 s3.heap := T.keep _ _ _ st2 fun b _ o e => by rw [h3]; exact Heap.get?_push_of_some _ e
  have I4 := block_start I3 ok hN f3
  show codeAny _ _ (.compStart (.SetComp elt [⟨tg, iter, ifs, 0⟩] scope pos) 0 (.ref it) (.ref Z) (compEnvC scope (cellsFrom (s3.heap.objs.size + 1) scope.names (cloFrom X.env.cells scope.names [])) s3.heap.objs.size X.env)) (compPost (model X.prog X.w) X.A X.xe none (EP X pins σ Q) (.ref Z) s3.heap.objs.size) { s3 with heap := pushCells (s3.heap.push { cls := .type "dict", data := .dict #[] }) scope.names }
  generalize hcl : cellsFrom (s3.heap.objs.size + 1) scope.names (cloFrom X.env.cells scope.names []) = cl at I4 ⊢
  have rg := hg s3 G s3.heap.objs.size cl fp
  have rt := ht s3 G s3.heap.objs.size cl fp
  have re := hE s3 G s3.heap.objs.size cl fp
  have clear : ∀ b ∈ fp, G b = none := fun b hb => (f3 b hb).1.1
  generalize hce : compEnvC scope cl s3.heap.objs.size X.env = ce at I4 rg rt re ⊢
  have home : ce.locals = s3.heap.objs.size := by subst hce; rfl
  generalize hs4 : ({ s3 with heap := pushCells (s3.heap.push { cls := .type "dict", data := .dict #[] }) scope.names } : Shared) = s4 at I4 ⊢
  have st4 : tn 0 s4.heap := T.keep _ _ _ st3 fun b _ o e => by rw [← hs4]; exact pushCells_keeps _ _ _ _ (Heap.get?_push_of_some _ e)
  have stands : ∀ {σ' : L2.St} {H' : Hp} {s' : Shared}, Inv (X.blk s3 G scope ce fp) [] σ' H' s' → (∀ b ∈ fp, H' b = none) → ∀ b ∈ fp, FpOk (X.blk s3 G scope ce fp) [] H' b := fun J2 hn b hb =>
    ⟨hn b hb, (J2.ok.exf b hb).1, J2.ok.exfs b hb, .inl hb, fun x c e => (J2.ok.exf b hb).2 x c e, fun p hp => nomatch (show p ∈ ([] : List (Addr × Obj)) from hp)⟩
  have loop : codeAny (model X.prog X.w) X.A (.compLoop (.SetComp elt [⟨tg, iter, ifs, 0⟩] scope pos) 0 (.ref it) (.ref Z) ce) (compPost (model X.prog X.w) X.A X.xe none (EP X pins σ Q) (.ref Z) s3.heap.objs.size) s4 := by
    refine PpSet.compLoopS_any (fun n s' => ∃ i H', Inv (X.blk s3 G scope ce fp) [] (wipe σ (own.map (·.2))) H' s' ∧ tn i s'.heap ∧ (∀ b ∈ fp, H' b = none) ∧ M i n H') ?_ m0 ⟨0, G, I4, st4, clear, begin⟩
    rintro n u ⟨i, V5, J5, st5, n5, m5⟩
    rcases turn i n V5 m5 with ⟨stop, fin⟩ | ⟨go, N, hN2, step⟩
    · refine thnF (T.done (X.blk s3 G scope ce fp) rfl rfl rfl hc i [] u _ V5 (fun _ _ => False) J5 (stands J5 n5) st5 stop) fun r s6 ⟨hr, J6⟩ => ?_
      subst hr
      have back : Inv X pins σ V5 s6 := I3.call' (ch := fp) J6.os J6.base J6.hok J6.bare fun b hb => ⟨(f3 b hb).1.2.2.2.1, (f3 b hb).1.2.1, (f3 b hb).1.2.2.2.2.1, (f3 b hb).1.2.2.2.2.2⟩
      have gone : V5 ce.locals = none := J6.free
      obtain ⟨m, ns, _⟩ := J6.loc
      have ns' : s6.heap.Ns ce.locals m := ns
      rw [home] at gone ns'
      obtain ⟨g0, g1, g2, g3, g4, g5⟩ := I3.fpOk (Nat.le_refl _) gone
      exact ⟨m, ns', fun h'' sb => ⟨.ref Z, V5, back.turned (t' := s6.toks) (fun b o hb e => (sb.2 b hb).trans e) g0 g1 g3 g4 g5, rfl, fin⟩⟩
    · refine thnF (T.item (X.blk s3 G scope ce fp) rfl rfl rfl hc i [] u _ V5 (fun _ _ => False) J5 (stands J5 n5) st5 go) fun r s6 ⟨v, hr, h6⟩ => ?_
      subst hr
      refine thnF h6 fun _ s7 ⟨x, V7, J7, r7, y7, st7, n7⟩ => ?_
      refine thnF (rg.run _ s7 _ V7 x v _ (J7.pinned (stands J7 n7) (T.obj _ _ st7)) r7 (step x V7 y7)) fun _ s8 ⟨σ8, V8, J8, same, q8⟩ => ?_
      refine thnF (rt.run _ s8 σ8 V8 _ J8 q8) fun b s9 ⟨V9, J9, q9⟩ => ?_
      have next : ∀ {s' : Shared} {H' : Hp}, Inv (X.blk s3 G scope ce fp) ([] ++ pinsAt fp s7.heap) σ8 H' s' → N H' → ∃ m, m < n ∧ ∃ i H', Inv (X.blk s3 G scope ce fp) [] (wipe σ (own.map (·.2))) H' s' ∧ tn i s'.heap ∧ (∀ b ∈ fp, H' b = none) ∧ M i m H' := fun {s' H'} J' nx => by
        obtain ⟨m', lt, at'⟩ := hN2 H' nx
        have held : ∀ b ∈ fp, ∀ o, s7.heap.get? b = some o → s'.heap.get? b = some o ∧ H' b = none := fun b hb o e =>
          have z := J'.pin (b, o) (List.mem_append_right _ (List.mem_append_right _ (mem_pinsAt hb e)))
          ⟨z.1, z.2.1⟩
        have wl : (wipe σ (own.map (·.2))).length = σ8.length := by rw [← same, wipe_length]
        refine ⟨m', lt, i + 1, H', (J'.unpinned (pins := [])).weak wl (fun j v e => ?_), T.keep _ _ _ st7 fun b hb o e => (held b hb o e).1, fun b hb => ?_, at'⟩
        · rw [← same] at e
          exact (wipe_some e).1
        · obtain ⟨o, e, _⟩ := T.obj _ _ st7 b hb
          exact (held b hb o e).2
      cases b with
      | false =>
        rw [if_neg Bool.false_ne_true] at q9
        exact next J9 q9
      | true =>
        rw [if_pos rfl] at q9
        refine thnF (re.run _ s9 σ8 V9 _ J9 q9) fun z s10 ⟨yv, V10, J10, r10, key, T0, n0, ey, hZ10, room, nx⟩ => ?_
        subst ey
        exact addK_ok (X := X.blk s3 G scope ce fp) J10 hZ10 room r10 fun s11 J11 => next J11 nx
  exact PpSet.codeAny_compStart_set loop (T.self X.A 0 _ _ _ st4 loop)
/-- len of such a set -/
def rLenSk (P : Program) (w : World) : List V → Hp → VK → Prop := fun xs H Q => ∃ a T n, xs = [.ref a] ∧ H a = some (SetK P w a T n) ∧ Q (.int (n : Nat)) H
theorem call_lenSk : CallR X (.builtin "len") (rLenSk X.prog X.w) := fun pins s σ H xs us Q I r ⟨a, T, n, ex, ha, q⟩ => by
  subst ex
  obtain ⟨u, rfl, ru⟩ := vals1 r
  obtain rfl : u = Value.ref a := ru
  obtain ⟨ob, ents, ep, tb, ho, hex, hd, _, _, hb, hf, hsz⟩ := setK_get I ha
  refine call_len_set ho hex hd hf (by unfold scanBound at hb; omega) ⟨.int (n : Nat), H, I.tok _, ⟨_, by rw [hsz]⟩, q⟩
def hasK (acc : List Key) (k : Key) : Bool := acc.any fun j => decide (j = k)
/-- the keys that come, each once -/
def skD (vs : List Nat) (G : DG) (T : DT) (A : DE) : List D → Env → Sto → List Key → Option (Out (List Key))
  | [], _, S, acc => some (.ok acc S)
  | d :: ds, δ, S, acc => match G d (wipeD δ vs) S with
    | none => none
    | some δ1 => bndL (T δ1 S) fun b S1 => if b = true then bndL (A δ1 S1) fun y S2 => match kOf y with
        | some key => if acc.length < 4000 then skD vs G T A ds δ S2 (if hasK acc key = true then acc else acc ++ [key]) else none
        | none => none
      else skD vs G T A ds δ S1 acc
def dLenSk (I : DI) (vs : List Nat) (G : DG) (T : DT) (A : DE) : DE := fun δ S => bnd (I δ S) fun ds S1 => bnd (skD vs G T A ds δ S1 []) fun ks S2 => some (Out.ok (D.int (ks.length : Nat)) S2)
theorem sk_run {K : PySem.W.Frag} {P : Program} {wd : World} {σ : L2.St} {I : DI} {vs ws : List Nat} {G : DG} {T : DT} {A : DE} {Q : VK} (hw : ∀ i ∈ ws, i ∈ vs) {H : Hp} (h : TEv K W (dLenSk I vs G T A) σ H Q) :
    tSk P wd (TIv K W I) (TGv K ws G) (TTv K WF T) (TEv K WF A) vs σ H (fun v H' => rLenSk P wd [v] H' Q) := by
  obtain ⟨δ, S, w, r, he, p⟩ := h
  refine ⟨δ, S, w, r, he, p.bnd.mono fun ds S1 w1 H1 e1 r1 p1 J hJ Z hZ => ?_⟩
  have zH : w1.H Z = none := r1.free hZ
  have zF : w1.F Z = none := by
    cases q : w1.F Z with
    | none => rfl
    | some o =>
      have := (r1.frm Z o q).1
      rw [hZ] at this
      cases this
  have kn0 : ∀ o, w1.Kn (w1.frame Z o) := fun o => ⟨fun _ _ e => e, Nat.le_refl _, fun _ _ => rfl⟩
  refine ⟨fun i m H' => m = ds.length - i ∧ ∃ (acc : List Key) (mem : Key → Bool) (S' : Sto) (w' : Wd), (∀ j, mem j = hasK acc j) ∧ w1.Kn w' ∧ w'.F = upd w1.F Z (SetK P wd Z mem acc.length) ∧ Rep K S' w' H' ∧ Po K W σ w1 (bnd (skD vs G T A (ds.drop i) δ S' acc) fun ks S2 => some (Out.ok (D.int (ks.length : Nat)) S2)) (Got K Q),
    ⟨_, rfl, [], _, S1, _, (fun j => rfl), kn0 _, rfl, r1.frame hZ _, p1⟩, ?_⟩
  rintro i m H' ⟨rfl, acc, mem, S', w', hm, kn, hF, r', p'⟩
  obtain ⟨hgo, hst⟩ := hJ i S' w' H' kn r'
  have atZ : w'.F Z = some (SetK P wd Z mem acc.length) := by rw [hF, upd_same]
  cases hd : ds[i]? with
  | none =>
    have hi : ds.length ≤ i := List.getElem?_eq_none_iff.mp hd
    rw [List.drop_of_length_le hi] at p'
    refine .inl ⟨hst hi, Z, mem, acc.length, rfl, (r'.frm Z _ atZ).1, ?_⟩
    have r2 : Rep K S' { w' with F := w1.F } H' := ⟨r'.sub, r'.len, fun k o e => by
      obtain ⟨g1, g2⟩ := r'.obs k o e
      exact ⟨g1, ObAt.kn (w := w') (w' := { w' with F := w1.F }) ⟨fun _ _ e => e, Nat.le_refl _, fun _ _ => rfl⟩ rfl g2⟩, r'.inj, fun b o e => by
      have e' : w1.F b = some o := e
      have hb : b ≠ Z := fun q => by
        rw [q, zF] at e'
        cases e'
      exact r'.frm b o (by rw [hF, upd_ne hb]; exact e')⟩
    exact p' { w' with F := w1.F } H' ⟨kn.h, kn.n, kn.a, rfl⟩ r2 _ rfl
  | some d =>
    have hi : i < ds.length := (List.getElem?_eq_some_iff.mp hd).1
    obtain ⟨g1, g2⟩ := hgo d hd
    refine .inr ⟨g1, fun H2 => ∃ (acc : List Key) (mem : Key → Bool) (S' : Sto) (w' : Wd), (∀ j, mem j = hasK acc j) ∧ w1.Kn w' ∧ w'.F = upd w1.F Z (SetK P wd Z mem acc.length) ∧ Rep K S' w' H2 ∧ Po K W σ w1 (bnd (skD vs G T A (ds.drop (i + 1)) δ S' acc) fun ks S2 => some (Out.ok (D.int (ks.length : Nat)) S2)) (Got K Q), fun H2 h2 => ⟨ds.length - (i + 1), by omega, rfl, h2⟩, fun x H2 y => ?_⟩
    obtain ⟨w2, e2, r2, hx2⟩ := g2 x H2 y
    rw [drop_cons hd] at p'
    have p2 : Po K W σ w1 (bnd (match G d (wipeD δ vs) S' with
      | none => none
      | some δ1 => bndL (T δ1 S') fun b S1 => if b = true then bndL (A δ1 S1) fun y S2 => match kOf y with
          | some key => if acc.length < 4000 then skD vs G T A (ds.drop (i + 1)) δ S2 (if hasK acc key = true then acc else acc ++ [key]) else none
          | none => none
        else skD vs G T A (ds.drop (i + 1)) δ S1 acc) fun ks S2 => some (Out.ok (D.int (ks.length : Nat)) S2)) (Got K Q) := p'
    cases q : G d (wipeD δ vs) S' with
    | none =>
      rw [q] at p2
      exact p2.elim
    | some δ1 =>
      rw [q] at p2
      have kn2 : w1.Kn w2 := ⟨fun b o e => e2.h b o (kn.h b o e), Nat.le_trans kn.n e2.n, fun k hk => (e2.a k (Nat.lt_of_lt_of_le hk kn.n)).trans (kn.a k hk)⟩
      refine ⟨d, wipeD δ vs, S', w2, δ1, r2, wipe_env ((he.kn e1.kn).kn kn2) vs, hx2, q, fun σ3 w3 H3 e3 r3 he3 hbut => ⟨wipe_but hbut hw, ?_⟩⟩
      have p3 : Po K W σ w1 (bnd (bndL (T δ1 S') fun b S1 => if b = true then bndL (A δ1 S1) fun y S2 => match kOf y with
          | some key => if acc.length < 4000 then skD vs G T A (ds.drop (i + 1)) δ S2 (if hasK acc key = true then acc else acc ++ [key]) else none
          | none => none
        else skD vs G T A (ds.drop (i + 1)) δ S1 acc) fun ks S2 => some (Out.ok (D.int (ks.length : Nat)) S2)) (Got K Q) := p2
      cases qT : T δ1 S' with
      | none =>
        rw [qT] at p3
        exact p3.elim
      | some oT =>
        cases oT with
        | exc x S9 =>
          rw [qT] at p3
          exact p3.elim
        | ok b S4 =>
          rw [qT, bndL_ok] at p3
          refine ⟨δ1, S', w3, r3, he3, ?_⟩
          rw [qT]
          refine fun w4 H4 e4 r4 => ?_
          have kn4 : w1.Kn w4 := ⟨fun b o e => e4.h b o (e3.h b o (kn2.h b o e)), Nat.le_trans kn2.n (Nat.le_trans e3.n e4.n), fun k hk => by
            have l2 := Nat.lt_of_lt_of_le hk kn2.n
            have l3 := Nat.lt_of_lt_of_le l2 e3.n
            exact (e4.a k l3).trans ((e3.a k l2).trans (kn2.a k hk))⟩
          have F4 : w4.F = upd w1.F Z (SetK P wd Z mem acc.length) := e4.f.trans (e3.f.trans (e2.f.trans hF))
          cases b with
          | false =>
            rw [if_neg Bool.false_ne_true] at p3
            exact iteF ⟨acc, mem, S4, w4, hm, kn4, F4, r4, p3⟩
          | true =>
            rw [if_pos rfl] at p3
            refine iteT ⟨δ1, S4, w4, r4, he3.le e4, ?_⟩
            cases qA : A δ1 S4 with
            | none =>
              rw [qA] at p3
              exact p3.elim
            | some oA =>
              cases oA with
              | exc x S9 =>
                rw [qA] at p3
                exact p3.elim
              | ok y2 S5 =>
                rw [qA, bndL_ok] at p3
                cases qk : kOf y2 with
                | none =>
                  simp only [qk] at p3
                  exact p3.elim
                | some key =>
                  simp only [qk] at p3
                  by_cases hl : acc.length < 4000
                  · rw [if_pos hl] at p3
                    intro w5 H5 e5 r5 v hv
                    have F5 : w5.F Z = some (SetK P wd Z mem acc.length) := by rw [e5.f, F4, upd_same]
                    refine ⟨key, mem, acc.length, kOf_at hv qk, (r5.frm Z _ F5).1, by unfold scanBound; omega, (if hasK acc key = true then acc else acc ++ [key]), fun j => mem j || decide (j = key), S5, w5.frame Z (SetK P wd Z (fun j => mem j || decide (j = key)) (if hasK acc key = true then acc else acc ++ [key]).length), fun j => ?_, ⟨fun b o e => e5.h b o (kn4.h b o e), Nat.le_trans kn4.n e5.n, fun k hk => (e5.a k (Nat.lt_of_lt_of_le hk kn4.n)).trans (kn4.a k hk)⟩, ?_, ?_, p3⟩
                    · show (mem j || decide (j = key)) = _
                      rw [hm j]
                      cases hk : hasK acc key with
                      | true =>
                        rw [if_pos rfl]
                        by_cases hj : j = key
                        · rw [hj, hk, decide_eq_true rfl]
                          rfl
                        · rw [decide_eq_false hj, Bool.or_false]
                      | false =>
                        rw [if_neg Bool.false_ne_true]
                        unfold hasK
                        rw [List.any_append, List.any_cons, List.any_nil, Bool.or_false]
                        congr 1
                        by_cases hj : j = key
                        · rw [hj]
                        · rw [decide_eq_false hj, decide_eq_false fun q => hj q.symm]
                    · show upd w5.F Z _ = _
                      rw [e5.f, F4, upd_upd]
                    · have hlen : (if mem key = true then acc.length else acc.length + 1) = (if hasK acc key = true then acc else acc ++ [key]).length := by
                        rw [hm key]
                        cases hk : hasK acc key with
                        | true => rw [if_pos rfl, if_pos rfl]
                        | false => rw [if_neg Bool.false_ne_true, if_neg Bool.false_ne_true, List.length_append, List.length_singleton]
                      rw [hlen]
                      exact r5.framed F5
                  · rw [if_neg hl] at p3
                    exact p3.elim
theorem ev_lenSk {elt tg iter : Expr} {ifs : List Expr} {scope : Scope} {own : List (Str × Nat)} {I : DI} {ws : List Nat} {G : DG} {T : DT} {p pos2 : Pos} (hgl : Gl X "len") (hm : X.mg "len" = none) (hc : X.calm = true) (hN : X.N.Nodup) (hi : Iv X W tg iter I) (ok : BlkOk X.N X.env.scope scope own)
    (hg : ∀ (s : Shared) (H : Hp) (C : Addr) (cl : List (Str × Addr)) (fp : List Addr), Gv (X.blk s H scope (compEnvC scope cl C X.env) fp) tg ws G) (ht : ∀ (s : Shared) (H : Hp) (C : Addr) (cl : List (Str × Addr)) (fp : List Addr), Tsv (X.blk s H scope (compEnvC scope cl C X.env) fp) WF ifs T)
    (he : ∀ (s : Shared) (H : Hp) (C : Addr) (cl : List (Str × Addr)) (fp : List Addr), Ev (X.blk s H scope (compEnvC scope cl C X.env) fp) WF elt A) (hs : ∀ x, foldedSetIterable iter X.env x = pure x := by intro _; rfl) (hw : ∀ i ∈ ws, i ∈ own.map (·.2) := by decide)
    (hse : starEach [.SetComp elt [⟨tg, iter, ifs, 0⟩] scope pos2] X.env = (false, eval (.SetComp elt [⟨tg, iter, ifs, 0⟩] scope pos2) X.env) :: starEach [] X.env := by rfl) (hpl : (backTo pos (starEach [] X.env)).any (·.1) = false := by rfl) :
    Ev X W (.Call (.Name "len" p) [.SetComp elt [⟨tg, iter, ifs, 0⟩] scope pos2] [] pos) (dLenSk I (own.map (·.2)) G T A) :=
  ⟨pe_imp (pe_callB call_lenSk hgl hm PySem.boot_len (pa_cons (pe_sk hc hN hi.pi ok (fun s H C cl fp => (hg s H C cl fp).pg) (fun s H C cl fp => (ht s H C cl fp).pts) (fun s H C cl fp => (he s H C cl fp).pe) hs) pa_nil hse) (he := hse) (hpl := hpl)) fun σ H Q h => sk_run hw h⟩
end
end Cw

set_option maxRecDepth 100000
set_option maxHeartbeats 2000000
set_option linter.all false
/-! A def as callers see it; short names for what the printed proofs use. -/
namespace Cw
open PySem PySem.Spec PyProof.Rows L2

/-- the def at x: ps its parameters, ds0 the defaults that fill up from behind -/
structure Cal (P : Program) (w : World) (K : PySem.W.Frag) (mg : Str → Option Value) (base : Heap) (x : Str) (k : Nat) (ps : List Str) (ds0 : List D) (F : Fn) : Prop where
  ex : ∃ (f : Addr) (fd : FuncData) (dvs : List V) (us0 : List Value), mg x = some (.ref f) ∧ PySem.W.keepIn K (.ref f) = true ∧ Binds K fd ps us0 ∧ Vals dvs us0 ∧ (∀ w, Dats K w ds0 dvs) ∧ GnOk P w K mg base k f fd ps F
/-- called with keywords ks behind n written values -/
structure CalK (P : Program) (w : World) (K : PySem.W.Frag) (mg : Str → Option Value) (base : Heap) (x : Str) (k : Nat) (ps : List Str) (n : Nat) (ks : List Str) (gD : List D → List D → List D) (F : Fn) : Prop where
  ex : ∃ (f : Addr) (fd : FuncData) (gu : List Value → List Value → List Value) (gV : List V → List V → List V), mg x = some (.ref f) ∧ PySem.W.keepIn K (.ref f) = true ∧ KBn K fd ps n ks gu gV ∧ (∀ w xs zs vs us, Dats K w xs vs → Dats K w zs us → Dats K w (gD xs zs) (gV vs us)) ∧ GnOk P w K mg base k f fd ps F
section
variable {P : Program} {w : World} {K : PySem.W.Frag} {mg : Str → Option Value} {base : Heap} {x qual : Str} {params : Arguments} {bd : List Stmt} {scope : Scope} {f : Addr} {fd : FuncData} {k : Nat} {ps : List Str} {F : Fn}
theorem cal_of (D : FunD K x qual params bd scope [] [] f fd) (hm : mg x = some (.ref f)) (g : GnOk P w K mg base k f fd ps F)
    (h : ∀ (kV doc pm : Value) (an : Option Addr) (cdv ct : Value) (us : List Value), us.length = ps.length → bindArgs (PySem.W.fnOf x qual params bd scope .none kV doc pm an cdv ct) ⟨us, []⟩ = pure (ps.zip us)) : Cal P w K mg base x k ps [] F :=
  ⟨f, fd, [], [], hm, D.kp, D.bindsN h, .nil, fun _ => Dats.nil, g⟩
theorem cal_kw {kws : List (Str × V)} {ds0 : List D} (D : FunD K x qual params bd scope [] kws f fd) (hm : mg x = some (.ref f)) (g : GnOk P w K mg base k f fd ps F) (n : Nat) (hk : kws ≠ []) (hn : n + kws.length = ps.length)
    (h : ∀ (D : Addr) (doc pm : Value) (an : Option Addr) (cdv ct : Value) (us ks : List Value), us.length = n → ks.length = kws.length → KwChain D ((kws.map (·.1)).zip ks) (bindArgs (PySem.W.fnOf x qual params bd scope .none (.ref D) doc pm an cdv ct) ⟨us, []⟩) (ps.zip (us ++ ks)))
    (h0 : ∀ w, Dats K w ds0 (kws.map (·.2))) : Cal P w K mg base x k ps ds0 F := by
  obtain ⟨us0, h1, h2⟩ := D.binds0 n hk hn h
  exact ⟨f, fd, _, us0, hm, D.kp, h2, h1, h0, g⟩
theorem calK_of {kws : List (Str × V)} {n : Nat} {ks : List Str} (D : FunD K x qual params bd scope [] kws f fd) (hm : mg x = some (.ref f)) (g : GnOk P w K mg base k f fd ps F)
    (h : ∀ (dV kV doc pm : Value) (an : Option Addr) (cdv ct : Value) (us ws : List Value), us.length = n → ws.length = ks.length → bindArgs (PySem.W.fnOf x qual params bd scope .none kV doc pm an cdv ct) ⟨us, ks.zip ws⟩ = pure (ps.zip (us ++ ws))) : CalK P w K mg base x k ps n ks (· ++ ·) F := by
  have kp := D.kp
  obtain ⟨oc, od, dV, kV, doc, pm, an, cdv, ct, osl, rfl, lk, hcd, hD, hK⟩ := D.ex
  rcases hD with ⟨_, rfl⟩ | ⟨e, _⟩
  · exact ⟨f, _, _, _, hm, kp, kbn_tail fun s us ws h1 h2 => .of_eq (h .none kV doc pm an cdv ct us ws h1 h2), dats_tail, g⟩
  · exact absurd rfl e
theorem GnOk.imp2 {F' : Fn} (g : GnOk P w K mg base k f fd ps F) (h : ∀ ds S r, ds.length = ps.length → F' ds S = some r → Cl K S (F ds S) (some r)) : GnOk P w K mg base k f fd ps F' := g.imp h
end
section
variable {X : Cx} {W : WX} {pos : Pos} {j k : Nat} {ps ks : List Str} {F : Fn} {ds0 : List D} {x : Str} {p : Pos} {e a : Expr} {es : List Expr} {A : DA}
theorem ev_cal (h : Cal X.prog X.w X.K X.mg X.base x j ps ds0 F) (hr : Rdy X W k) (ha : Av X W (e :: es) A) (hg : Gl X x := by rfl) (hj : j ≤ k := by decide)
    (hdb : (x == ("__debug__" : Str)) = false := by decide) (he : starEach (e :: es) X.env = (false, eval e X.env) :: starEach es X.env := by rfl) (hpl : (backTo pos (starEach es X.env)).any (·.1) = false := by rfl) :
    Ev X W (.Call (.Name x p) (e :: es) [] pos) (dCall F ps.length ds0 A) := by
  obtain ⟨f, fd, dvs, us0, h1, h2, h3, h4, h5, h6⟩ := h.ex
  exact ev_call h6 (hr.mono hj) hg h1 h2 h3 h4 h5 ha hdb he hpl
theorem ev_calK {kws : List Keyword} {n : Nat} {gD : List D → List D → List D} {T : DA} (h : CalK X.prog X.w X.K X.mg X.base x j ps n ks gD F) (hr : Rdy X W k) (ha : Av X W (e :: es) A) (hkw : Kv X W kws T) (hg : Gl X x := by rfl) (hj : j ≤ k := by decide) (hall : (backToKw pos (keywordEach kws X.env)).all (·.1.isSome) = true := by rfl) (hks : (backToKw pos (keywordEach kws X.env)).filterMap (·.1) = ks := by rfl)
    (hdb : (x == ("__debug__" : Str)) = false := by decide) (he : starEach (e :: es) X.env = (false, eval e X.env) :: starEach es X.env := by rfl)
    (hpl : ((backTo pos (starEach (e :: es) X.env)).any (·.1) || (backToKw pos (keywordEach kws X.env)).any (·.1.isNone)) = false := by rfl) : Ev X W (.Call (.Name x p) (e :: es) kws pos) (dCallK F n ks.length ps.length gD A T) := by
  obtain ⟨f, fd, gu, gV, h1, h2, h3, h4, h5⟩ := h.ex
  exact ev_callK h5 (hr.mono hj) hg h1 h2 h3 h4 ha hkw hall hks hdb he hpl
theorem evG_cb {id : String} {g : List D → Sto → Option (D × Sto)} (hc : CalR X (.builtin id) g) (hm : X.mg x = none) (hv : bootBuiltins x = some (.builtin id)) (ha : Av X W (e :: es) A) (hg : Gl X x := by rfl) (hn : x ≠ "__name__" := by decide) (hdb : (x == ("__debug__" : Str)) = false := by decide)
    (he : starEach (e :: es) X.env = (false, eval e X.env) :: starEach es X.env := by rfl) (hpl : (backTo pos (starEach es X.env)).any (·.1) = false := by rfl) : Ev X W (.Call (.Name x p) (e :: es) [] pos) (dCB g A) := ev_cb hc hg hm hv ha hn hdb he hpl
theorem evG_cty {id : String} {g : List D → Sto → Option (D × Sto)} (hc : CalR X (.type id) g) (hm : X.mg x = none) (hv : bootBuiltins x = some (.type id)) (ha : Av X W (e :: es) A) (hg : Gl X x := by rfl) (hn : x ≠ "__name__" := by decide) (hdb : (x == ("__debug__" : Str)) = false := by decide)
    (he : starEach (e :: es) X.env = (false, eval e X.env) :: starEach es X.env := by rfl) (hpl : (backTo pos (starEach es X.env)).any (·.1) = false := by rfl) : Ev X W (.Call (.Name x p) (e :: es) [] pos) (dCB g A) := ev_cty hc hg hm hv ha hn hdb he hpl
theorem evG_int {i : Int} (hm : ∃ t, X.mg x = some (.int i t)) (hg : Gl X x := by rfl) (hd : (x == ("__debug__" : Str)) = false := by decide) : Ev X W (.Name x pos) (dC (.int i)) := ev_gint hg hm hd
theorem evG_str {i : Str} (hm : ∃ t, X.mg x = some (.str i t)) (hg : Gl X x := by rfl) (hd : (x == ("__debug__" : Str)) = false := by decide) : Ev X W (.Name x pos) (dC (.str i)) := ev_gstr hg hm hd
theorem evG_ty {n : String} (hm : X.mg x = none) (hv : bootBuiltins x = some (.type n)) (hg : Gl X x := by rfl) (hn : x ≠ "__name__" := by decide) (hd : (x == ("__debug__" : Str)) = false := by decide) : Ev X W (.Name x pos) (dC (.ty n)) := ev_ty hg hm hv hn hd
variable {o : Expr} {B : DE} {apos : Pos}
theorem ev_join {L : DA} (ha : Ev X W o B) (hb : Av X W (e :: es) L) (hbase : attributeBase o "join" X.env (eval o X.env) = eval o X.env := by rfl)
    (hfew : ((backTo pos (starEach (e :: es) X.env)).all (fun x => !x.1) && (backToKw pos (keywordEach [] X.env)).all (fun x => x.1.isSome)
      && decide ((e :: es).length + ([] : List Keyword).length + (if ([] : List Keyword).isEmpty then 0 else 1) < 30)) = true := by rfl)
    (hline : (apos.endLine == pos.line) = true := by rfl) (hs : starEach (e :: es) X.env = (false, eval e X.env) :: starEach es X.env := by rfl) (hplain : (backTo pos (starEach es X.env)).any (·.1) = false := by rfl) :
    Ev X W (.Call (.Attribute o "join" apos) (e :: es) [] pos) (dMt "str" joinV B L) := ev_mt PySem.F.plainAttrs_str PySem.F.slot_str_join m_join ha hb PySem.F.type_str_join hbase hfew hline hs hplain
theorem ev_split {L : DA} (ha : Ev X W o B) (hb : Av X W (e :: es) L) (hbase : attributeBase o "split" X.env (eval o X.env) = eval o X.env := by rfl)
    (hfew : ((backTo pos (starEach (e :: es) X.env)).all (fun x => !x.1) && (backToKw pos (keywordEach [] X.env)).all (fun x => x.1.isSome)
      && decide ((e :: es).length + ([] : List Keyword).length + (if ([] : List Keyword).isEmpty then 0 else 1) < 30)) = true := by rfl)
    (hline : (apos.endLine == pos.line) = true := by rfl) (hs : starEach (e :: es) X.env = (false, eval e X.env) :: starEach es X.env := by rfl) (hplain : (backTo pos (starEach es X.env)).any (·.1) = false := by rfl) :
    Ev X W (.Call (.Attribute o "split" apos) (e :: es) [] pos) (dMt "str" splitV B L) := ev_mt PySem.F.plainAttrs_str PySem.F.slot_str_split m_split ha hb PySem.F.type_str_split hbase hfew hline hs hplain
theorem ev_append {L : DA} (ha : Ev X W o B) (hb : Av X W (e :: es) L) (hbase : attributeBase o "append" X.env (eval o X.env) = eval o X.env := by rfl)
    (hfew : ((backTo pos (starEach (e :: es) X.env)).all (fun x => !x.1) && (backToKw pos (keywordEach [] X.env)).all (fun x => x.1.isSome)
      && decide ((e :: es).length + ([] : List Keyword).length + (if ([] : List Keyword).isEmpty then 0 else 1) < 30)) = true := by rfl)
    (hline : (apos.endLine == pos.line) = true := by rfl) (hs : starEach (e :: es) X.env = (false, eval e X.env) :: starEach es X.env := by rfl) (hplain : (backTo pos (starEach es X.env)).any (·.1) = false := by rfl) :
    Ev X W (.Call (.Attribute o "append" apos) (e :: es) [] pos) (dMt "list" appendV B L) := ev_mt PySem.F.plainAttrs_list PySem.F.slot_list_append m_append ha hb PySem.F.type_list_append hbase hfew hline hs hplain
theorem ev_pop {L : DA} (ha : Ev X W o B) (hb : Av X W (e :: es) L) (hbase : attributeBase o "pop" X.env (eval o X.env) = eval o X.env := by rfl)
    (hfew : ((backTo pos (starEach (e :: es) X.env)).all (fun x => !x.1) && (backToKw pos (keywordEach [] X.env)).all (fun x => x.1.isSome)
      && decide ((e :: es).length + ([] : List Keyword).length + (if ([] : List Keyword).isEmpty then 0 else 1) < 30)) = true := by rfl)
    (hline : (apos.endLine == pos.line) = true := by rfl) (hs : starEach (e :: es) X.env = (false, eval e X.env) :: starEach es X.env := by rfl) (hplain : (backTo pos (starEach es X.env)).any (·.1) = false := by rfl) :
    Ev X W (.Call (.Attribute o "pop" apos) (e :: es) [] pos) (dMt "list" popV B L) := ev_mt PySem.F.plainAttrs_list PySem.F.slot_list_pop m_pop ha hb PySem.F.type_list_pop hbase hfew hline hs hplain
end
theorem bt_str : bootBuiltins "str" = some (.type "str") := by decide +kernel
theorem bt_int : bootBuiltins "int" = some (.type "int") := by decide +kernel
theorem bt_bool : bootBuiltins "bool" = some (.type "bool") := by decide +kernel
theorem bt_tuple : bootBuiltins "tuple" = some (.type "tuple") := by decide +kernel
theorem bt_list : bootBuiltins "list" = some (.type "list") := by decide +kernel
theorem bt_dict : bootBuiltins "dict" = some (.type "dict") := by decide +kernel
theorem bf_len : bootBuiltins "len" = some (.builtin "len") := by decide +kernel
theorem bf_all : bootBuiltins "all" = some (.builtin "all") := by decide +kernel
theorem bf_any : bootBuiltins "any" = some (.builtin "any") := by decide +kernel
theorem bf_abs : bootBuiltins "abs" = some (.builtin "abs") := by decide +kernel
theorem bf_min : bootBuiltins "min" = some (.builtin "min") := by decide +kernel
theorem bf_max : bootBuiltins "max" = some (.builtin "max") := by decide +kernel
theorem bf_repr : bootBuiltins "repr" = some (.builtin "repr") := by decide +kernel
theorem bf_isinstance : bootBuiltins "isinstance" = some (.builtin "isinstance") := by decide +kernel
end Cw

set_option maxRecDepth 100000
set_option maxHeartbeats 2000000
set_option linter.all false
/-! What a def owned for itself is forgotten at its end; a list that it hands out is nobody's from then on. -/
namespace Cw
open PySem PySem.Spec PyProof.Rows L2

mutual
/-- it knows owned objects ahead of n alone -/
def lowD (n : Nat) : D → Bool
  | .ref m => decide (m < n)
  | .tup ds => lowDs n ds
  | .lst ds => lowDs n ds
  | .scr ds => lowDs n ds
  | .non => true
  | .bl _ => true
  | .int _ => true
  | .str _ => true
  | .fn _ => true
  | .ty _ => true
def lowDs (n : Nat) : List D → Bool
  | [] => true
  | d :: ds => lowD n d && lowDs n ds
end
def lowA {κ : Type} (n : Nat) : List (κ × D) → Bool
  | [] => true
  | p :: ps => lowD n p.2 && lowA n ps
def lowO (n : Nat) : Ob → Bool
  | .lst ds => lowDs n ds
  | .dic ks => lowA n ks
  | .ins _ fs => lowA n fs
mutual
theorem low_of {K : PySem.W.Frag} {w : Wd} : ∀ {d : D} {v : V}, Dat K w d v → lowD w.n d = true
  | .ref m, _, h => decide_eq_true h.2
  | .tup ds, _, ⟨_, _, _, _, h⟩ => lows_of (ds := ds) h
  | .lst ds, _, ⟨_, _, _, _, h⟩ => lows_of (ds := ds) h
  | .scr ds, _, ⟨_, _, _, _, h⟩ => lows_of (ds := ds) h
  | .non, _, _ => rfl
  | .bl _, _, _ => rfl
  | .int _, _, _ => rfl
  | .str _, _, _ => rfl
  | .fn _, _, _ => rfl
  | .ty _, _, _ => rfl
theorem lows_of {K : PySem.W.Frag} {w : Wd} : ∀ {ds : List D} {vs : List V}, Dats K w ds vs → lowDs w.n ds = true
  | [], _, _ => rfl
  | d :: ds, _, ⟨_, _, _, h1, h2⟩ => by
    show (lowD w.n d && lowDs w.n ds) = true
    rw [low_of h1, lows_of h2]
    rfl
end
theorem lowA_of {κ : Type} {K : PySem.W.Frag} {w : Wd} : ∀ {ps : List (κ × D)} {xs : List (κ × V)}, DatA K w ps xs → lowA w.n ps = true
  | [], _, _ => rfl
  | p :: ps, _, ⟨_, _, _, h1, h2⟩ => by
    show (lowD w.n p.2 && lowA w.n ps) = true
    rw [low_of h1, lowA_of h2]
    rfl
theorem lowO_of {K : PySem.W.Frag} {w : Wd} {H : Hp} {p : Addr} : ∀ {o : Ob}, ObAt K w H p o → lowO w.n o = true
  | .lst _, ⟨_, _, h⟩ => lows_of h
  | .dic _, ⟨_, _, h⟩ => lowA_of h
  | .ins _ _, ⟨_, _, _, h⟩ => lowA_of h
/-- a world with fewer owned objects -/
structure Wd.Cut (n : Nat) (w w' : Wd) : Prop where
  h : ∀ b o, w.H b = some o → w'.H b = some o
  a : ∀ k, k < n → w'.a k = w.a k
  n : n ≤ w'.n
mutual
theorem Dat.cutW {K : PySem.W.Frag} {n : Nat} {w w' : Wd} (e : w.Cut n w') : ∀ {d : D} {v : V}, lowD n d = true → Dat K w d v → Dat K w' d v
  | .ref m, _, l, ⟨h1, h2⟩ => by
    have hm : m < n := of_decide_eq_true l
    exact ⟨by rw [h1, e.a m hm], Nat.lt_of_lt_of_le hm e.n⟩
  | .tup ds, _, l, ⟨p, xs, h1, h2, h3⟩ => ⟨p, xs, h1, sqT_le e.h h2, Dats.cutW e (ds := ds) l h3⟩
  | .lst ds, _, l, ⟨p, xs, h1, h2, h3⟩ => ⟨p, xs, h1, e.h _ _ h2, Dats.cutW e (ds := ds) l h3⟩
  | .scr ds, _, l, ⟨p, xs, h1, h2, h3⟩ => ⟨p, xs, h1, sqL_le e.h h2, Dats.cutW e (ds := ds) l h3⟩
  | .non, _, _, h => h
  | .bl _, _, _, h => h
  | .int _, _, _, h => h
  | .str _, _, _, h => h
  | .fn _, _, _, h => h
  | .ty _, _, _, h => h
theorem Dats.cutW {K : PySem.W.Frag} {n : Nat} {w w' : Wd} (e : w.Cut n w') : ∀ {ds : List D} {vs : List V}, lowDs n ds = true → Dats K w ds vs → Dats K w' ds vs
  | [], _, _, h => h
  | d :: ds, _, l, ⟨v, vs, h1, h2, h3⟩ => by
    have l' : (lowD n d && lowDs n ds) = true := l
    rw [Bool.and_eq_true] at l'
    exact ⟨v, vs, h1, Dat.cutW e l'.1 h2, Dats.cutW e l'.2 h3⟩
end
theorem DatA.cutW {κ : Type} {K : PySem.W.Frag} {n : Nat} {w w' : Wd} (e : w.Cut n w') : ∀ {ps : List (κ × D)} {xs : List (κ × V)}, lowA n ps = true → DatA K w ps xs → DatA K w' ps xs
  | [], _, _, h => h
  | p :: ps, _, l, ⟨v, vs, h1, h2, h3⟩ => by
    have l' : (lowD n p.2 && lowA n ps) = true := l
    rw [Bool.and_eq_true] at l'
    exact ⟨v, vs, h1, Dat.cutW e l'.1 h2, DatA.cutW e l'.2 h3⟩
theorem ObAt.cutW {K : PySem.W.Frag} {n : Nat} {w w' : Wd} (e : w.Cut n w') {H : Hp} {p : Addr} : ∀ {o : Ob}, lowO n o = true → ObAt K w H p o → ObAt K w' H p o
  | .lst _, l, ⟨xs, h1, h2⟩ => ⟨xs, h1, h2.cutW e l⟩
  | .dic _, l, ⟨xs, h1, h2⟩ => ⟨xs, h1, h2.cutW e l⟩
  | .ins _ _, l, ⟨dx, xs, h1, h2⟩ => ⟨dx, xs, h1, h2.cutW e l⟩
/-- what may be forgotten: the store S at the start, S' at the end -/
def Keeps (S S' : Sto) : Prop := S.length ≤ S'.length ∧ ∀ k o, k < S.length → S'[k]? = some o → S[k]? = some o ∨ lowO S.length o = true
/-- what comes out -/
def outD (n : Nat) (S' : Sto) (d : D) : Option D := if lowD n d = true then some d else match d with
  | .ref m => match S'[m]? with
    | some (.lst xs) => if n ≤ m ∧ lowDs n xs = true then some (.lst xs) else none
    | _ => none
  | _ => none
noncomputable instance (S S' : Sto) : Decidable (Keeps S S') := Classical.propDecidable _
noncomputable def cutF (F : Fn) : Fn := fun ds S => match F ds S with
  | some (.ok d S') => match outD S.length S' d with
    | some d' => if Keeps S S' then some (.ok d' (S'.take S.length)) else none
    | none => none
  | r => r
theorem cut_rep {K : PySem.W.Frag} {S S' : Sto} {w w' : Wd} {H H' : Hp} (r : Rep K S w H) (k : Keeps S S') (e : w.Le w') (r' : Rep K S' w' H') {G : Hp} (hG : ∀ b o, w'.H b = some o → G b = some o) (hG2 : ∀ b o, G b = some o → H' b = some o) (hG3 : ∀ j, j < S.length → G (w'.a j) = none) (hG4 : ∀ b o, w'.F b = some o → G b = none) :
    w.Le ⟨G, w'.a, S.length, w'.F⟩ ∧ Rep K (S'.take S.length) ⟨G, w'.a, S.length, w'.F⟩ H' ∧ w'.Cut S.length ⟨G, w'.a, S.length, w'.F⟩ := by
  have cut : w'.Cut S.length ⟨G, w'.a, S.length, w'.F⟩ := ⟨hG, fun _ _ => rfl, Nat.le_refl _⟩
  refine ⟨⟨fun b o q => hG b o (e.h b o q), Nat.le_of_eq r.len, e.a, e.f⟩, ⟨hG2, ?_, fun j o q => ?_, fun i j hi hj q => ?_, fun b o q => ?_⟩, cut⟩
  · show S.length = (S'.take S.length).length
    rw [List.length_take, Nat.min_eq_left k.1]
  · have hj : j < S.length := by
      have := (List.getElem?_eq_some_iff.mp q).1
      rw [List.length_take] at this
      omega
    rw [List.getElem?_take_of_lt hj] at q
    obtain ⟨_, h2⟩ := r'.obs j o q
    refine ⟨hG3 j hj, h2.cutW cut ?_⟩
    rcases k.2 j o hj q with z | z
    · rw [← r.len]
      exact lowO_of (r.obs j o z).2
    · exact z
  · have hi' : i < S.length := hi
    have hj' : j < S.length := hj
    have le : S.length ≤ w'.n := by rw [r'.len]; exact k.1
    exact r'.inj i j (Nat.lt_of_lt_of_le hi' le) (Nat.lt_of_lt_of_le hj' le) q
  · obtain ⟨h1, h2, h3⟩ := r'.frm b o q
    refine ⟨h1, hG4 b o q, fun j hj => ?_⟩
    have hj' : j < S.length := hj
    have le : S.length ≤ w'.n := by rw [r'.len]; exact k.1
    exact h3 j (Nat.lt_of_lt_of_le hj' le)
theorem cutF_cl {K : PySem.W.Frag} {F : Fn} {ds : List D} {S : Sto} {r : Out D} (h : cutF F ds S = some r) : Cl K S (F ds S) (some r) := fun w Q E H rp po => by
  unfold cutF at h
  cases q : F ds S with
  | none =>
    rw [q] at h
    cases h
  | some o =>
    rw [q] at h
    cases o with
    | exc x S' =>
      cases h
      exact po
    | ok d S' =>
      have h2 : (match outD S.length S' d with
        | some d' => if Keeps S S' then some (Out.ok d' (S'.take S.length)) else none
        | none => none) = some r := h
      cases q2 : outD S.length S' d with
      | none =>
        rw [q2] at h2
        cases h2
      | some d' =>
        rw [q2] at h2
        obtain ⟨hk, e⟩ := some_if (show (if Keeps S S' then some (Out.ok d' (S'.take S.length)) else none) = some r from h2)
        subst e
        intro v w' H' e r' hv
        have le : S.length ≤ w'.n := by rw [r'.len]; exact hk.1
        unfold outD at q2
        by_cases hl : lowD S.length d = true
        · rw [if_pos hl] at q2
          cases q2
          obtain ⟨h1, h2, h3⟩ := cut_rep rp hk e r' (G := w'.H) (fun _ _ q => q) r'.sub (fun j hj => (r'.obs j (S'[j]'(Nat.lt_of_lt_of_le hj hk.1)) (by simp [Nat.lt_of_lt_of_le hj hk.1])).1) fun b o q => (r'.frm b o q).2.1
          exact po v _ H' h1 h2 (hv.cutW h3 hl)
        · rw [if_neg hl] at q2
          cases d with
          | ref m =>
            have q3 : (match S'[m]? with
              | some (.lst xs) => if S.length ≤ m ∧ lowDs S.length xs = true then some (D.lst xs) else none
              | _ => none) = some d' := q2
            cases q4 : S'[m]? with
            | none =>
              rw [q4] at q3
              cases q3
            | some o =>
              rw [q4] at q3
              cases o with
              | lst xs =>
                obtain ⟨⟨g1, g2⟩, e3⟩ := some_if (show (if S.length ≤ m ∧ lowDs S.length xs = true then some (D.lst xs) else none) = some d' from q3)
                subst e3
                obtain ⟨e4, hm⟩ := hv
                obtain ⟨z1, vs, z2, z3⟩ := r'.obs m _ q4
                have other : ∀ j, j < S.length → w'.a j ≠ w'.a m := fun j hj q => by
                  have := r'.inj j m (Nat.lt_of_lt_of_le hj le) hm q
                  omega
                have hup : ∀ b o, w'.H b = some o → upd w'.H (w'.a m) (.lst vs) b = some o := fun b o q => by
                  rw [upd_ne (ne_of_none q z1)]
                  exact q
                obtain ⟨h1, h2, h3⟩ := cut_rep rp hk e r' (G := upd w'.H (w'.a m) (.lst vs)) hup (fun b o q => by
                  by_cases hb : b = w'.a m
                  · rw [hb, upd_same] at q
                    rw [hb, z2]
                    exact q
                  · rw [upd_ne hb] at q
                    exact r'.sub b o q) (fun j hj => by
                  rw [upd_ne (other j hj)]
                  exact (r'.obs j (S'[j]'(Nat.lt_of_lt_of_le hj hk.1)) (by simp [Nat.lt_of_lt_of_le hj hk.1])).1) fun b o q => by
                  obtain ⟨y1, y2, y3⟩ := r'.frm b o q
                  rw [upd_ne (fun z => y3 m hm z.symm)]
                  exact y2
                exact po v _ H' h1 h2 ⟨_, vs, e4, upd_same, z3.cutW h3 g2⟩
              | _ => cases q3
          | _ => cases q2
theorem GnOk.cut {P : Program} {w : World} {K : PySem.W.Frag} {mg : Str → Option Value} {base : Heap} {k : Nat} {f : Addr} {fd : FuncData} {ps : List Str} {F : Fn} (g : GnOk P w K mg base k f fd ps F) : GnOk P w K mg base k f fd ps (cutF F) := g.imp fun ds S r _ h => cutF_cl h
end Cw

set_option maxRecDepth 100000
set_option maxHeartbeats 2000000
set_option linter.all false
/-! The dens, unfolded by simp; the pen. -/
namespace Cw
open PySem PySem.Spec PyProof.Rows L2

section
variable {δ : Env} {S : Sto} {A B C : DE} {T T2 : DT} {L : DA} {P Q : DS} {d : D} {i n : Nat}
@[simp] theorem z_var : dVar i δ S = up (match δ[i]? with | some (some d) => some d | _ => none) S := rfl
@[simp] theorem z_c : dC d δ S = some (.ok d S) := rfl
@[simp] theorem z_op {g : D → D → Sto → Option (D × Sto)} : dOp g A B δ S = bnd (A δ S) fun x S1 => bnd (B δ S1) fun y S2 => upS (g x y S2) := rfl
@[simp] theorem z_asT : asT A δ S = bnd (A δ S) fun x S1 => up (match x with | .bl b => some b | _ => none) S1 := rfl
@[simp] theorem z_tand : tAndD T T2 δ S = bnd (T δ S) fun x S1 => if x = true then T2 δ S1 else some (.ok false S1) := rfl
@[simp] theorem z_tor : tOrD T T2 δ S = bnd (T δ S) fun x S1 => if x = true then some (.ok true S1) else T2 δ S1 := rfl
@[simp] theorem z_tnot : tNotD T δ S = bnd (T δ S) fun x S1 => some (.ok (!x) S1) := rfl
@[simp] theorem z_and : dAnd A B δ S = bnd (A δ S) fun x S1 => match x with | .bl true => B δ S1 | .bl false => some (.ok (.bl false) S1) | _ => none := rfl
@[simp] theorem z_or : dOr A B δ S = bnd (A δ S) fun x S1 => match x with | .bl true => some (.ok (.bl true) S1) | .bl false => B δ S1 | _ => none := rfl
@[simp] theorem z_not : dNot A δ S = bnd (A δ S) fun x S1 => match x with | .bl b => some (.ok (.bl (!b)) S1) | _ => none := rfl
@[simp] theorem z_dif : dIf T A B δ S = bnd (T δ S) fun x S1 => if x = true then A δ S1 else B δ S1 := rfl
@[simp] theorem z_nil : aNil δ S = some (.ok [] S) := rfl
@[simp] theorem z_cons : aCons A L δ S = bnd (A δ S) fun x S1 => bnd (L δ S1) fun xs S2 => some (.ok (x :: xs) S2) := rfl
@[simp] theorem z_tup : dTup L δ S = bnd (L δ S) fun xs S1 => if xs.length ≤ big then some (.ok (.tup xs) S1) else none := rfl
@[simp] theorem z_lst : dLst L δ S = bnd (L δ S) fun xs S1 => if xs.length ≤ big then some (.ok (.lst xs) S1) else none := rfl
@[simp] theorem z_lstO : dLstO L δ S = bnd (L δ S) fun xs S1 => if xs.length ≤ big then some (.ok (.ref S1.length) (S1 ++ [.lst xs])) else none := rfl
@[simp] theorem z_call {F : Fn} {ds0 : List D} : dCall F n ds0 L δ S = bnd (L δ S) fun xs S1 => if (xs ++ ds0).length = n then F (xs ++ ds0) S1 else none := rfl
@[simp] theorem z_cb {g : List D → Sto → Option (D × Sto)} : dCB g L δ S = bnd (L δ S) fun xs S1 => upS (g xs S1) := rfl
@[simp] theorem z_mt {t : String} {g : D → List D → Sto → Option (D × Sto)} : dMt t g A L δ S = bnd (A δ S) fun x S1 => if tyD S1 t x = true then bnd (L δ S1) fun xs S2 => upS (g x xs S2) else none := rfl
@[simp] theorem z_seq : sSeq P Q δ S = match P δ S with | none => none | some (.nx δ1 S1) => Q δ1 S1 | some o => some o := rfl
@[simp] theorem z_next : sNext δ S = some (.nx δ S) := rfl
@[simp] theorem z_brk : sBrk δ S = some (.brk δ S) := rfl
@[simp] theorem z_if : sIf T P Q δ S = bndS (T δ S) δ fun b S1 => if b = true then P δ S1 else Q δ S1 := rfl
@[simp] theorem z_asg {G : DG} : sAsg A G δ S = bndS (A δ S) δ fun d S1 => match G d δ S1 with | some δ1 => some (.nx δ1 S1) | none => none := rfl
@[simp] theorem z_sub : sSub A B C δ S = bndS (A δ S) δ fun d S1 => bndS (B δ S1) δ fun x S2 => bndS (C δ S2) δ fun y S3 => match setV x y d S3 with
  | some S4 => some (.nx δ S4)
  | none => none := rfl
@[simp] theorem z_expr : sExpr A δ S = bndS (A δ S) δ fun _ S1 => some (.nx δ S1) := rfl
@[simp] theorem z_ret : sRet A δ S = bndS (A δ S) δ fun d S1 => some (.ret d S1) := rfl
@[simp] theorem z_nm : gNm i d δ S = some (δ.set i (some d)) := rfl
@[simp] theorem z_sl {lo hi : Option DE} : dSl A lo hi δ S = bnd (A δ S) fun x S1 => bnd (oPart lo δ S1) fun l S2 => bnd (oPart hi δ S2) fun u S3 => upS (slV x l u S3) := rfl
@[simp] theorem z_pn : oPart none δ S = some (.ok none S) := rfl
@[simp] theorem z_ps : oPart (some A) δ S = bnd (A δ S) fun x S1 => match x with
  | .int i => some (.ok (some i) S1)
  | _ => none := rfl
end
@[simp] theorem add_ii (i j : Int) (S : Sto) : addV (.int i) (.int j) S = some (.int (i + j), S) := rfl
@[simp] theorem sub_ii (i j : Int) (S : Sto) : subV (.int i) (.int j) S = some (.int (i - j), S) := rfl
theorem mul_ii {i j : Int} {S : Sto} (h : midI i ∨ midI j) : mulV (.int i) (.int j) S = some (.int (i * j), S) := if_pos h
theorem div_ii {i j : Int} {S : Sto} (h : 0 < j ∧ j < 1073741824) : divV (.int i) (.int j) S = some (.int (i / j), S) := if_pos h
theorem mod_ii {i j : Int} {S : Sto} (h : 0 < j) : modV (.int i) (.int j) S = some (.int (i % j), S) := if_pos h
theorem pow_ii {i j : Int} {S : Sto} (h : 0 ≤ j ∧ j ≤ 1000000 ∧ i.natAbs < 2 ^ 64) : powV (.int i) (.int j) S = some (.int (i ^ j.toNat), S) := if_pos h
@[simp] theorem lt_ii (i j : Int) (S : Sto) : ltV (.int i) (.int j) S = some (.bl (decide (i < j)), S) := rfl
@[simp] theorem le_ii (i j : Int) (S : Sto) : leV (.int i) (.int j) S = some (.bl (decide (i ≤ j)), S) := rfl
@[simp] theorem gt_ii (i j : Int) (S : Sto) : gtV (.int i) (.int j) S = some (.bl (decide (j < i)), S) := rfl
@[simp] theorem ge_ii (i j : Int) (S : Sto) : geV (.int i) (.int j) S = some (.bl (decide (j ≤ i)), S) := rfl
@[simp] theorem eq_ii (i j : Int) (S : Sto) : eqV' (.int i) (.int j) S = some (.bl (decide (i = j)), S) := rfl
@[simp] theorem ne_ii (i j : Int) (S : Sto) : neV' (.int i) (.int j) S = some (.bl (!decide (i = j)), S) := rfl
@[simp] theorem eq_ss (i j : Str) (S : Sto) : eqV' (.str i) (.str j) S = some (.bl (decide (i = j)), S) := rfl
@[simp] theorem ne_ss (i j : Str) (S : Sto) : neV' (.str i) (.str j) S = some (.bl (!decide (i = j)), S) := rfl
@[simp] theorem int_i (i : Int) (S : Sto) : int1 (.int i) S = some (.int i, S) := rfl
@[simp] theorem int_b (b : Bool) (S : Sto) : int1 (.bl b) S = some (.int (if b then 1 else 0), S) := rfl
@[simp] theorem abs_i (i : Int) (S : Sto) : abs1 (.int i) S = some (.int (if i < 0 then -i else i), S) := rfl
@[simp] theorem len_l (ds : List D) (S : Sto) : len1 (.lst ds) S = some (.int ds.length, S) := rfl
@[simp] theorem len_t (ds : List D) (S : Sto) : len1 (.tup ds) S = some (.int ds.length, S) := rfl

theorem for_nil {G : DG} {B : DS} {δ : Env} {S : Sto} : forD G B [] δ S = some (.nx δ S) := rfl
theorem for_nm {B : DS} {i : Nat} {d : D} {ds : List D} {δ : Env} {S : Sto} : forD (gNm i) B (d :: ds) δ S = contD (B (δ.set i (some d)) S) (forD (gNm i) B ds) := rfl
theorem for_at {G : DG} {B : DS} {d : D} {ds : List D} {δ δ1 : Env} {S : Sto} (h : G d δ S = some δ1) : forD G B (d :: ds) δ S = contD (B δ1 S) (forD G B ds) := by
  show (match G d δ S with
    | none => none
    | some δ1 => contD (B δ1 S) (forD G B ds)) = _
  rw [h]

theorem lc_end {vs : List Nat} {G : DG} {T : DT} {A : DE} {δ : Env} {S : Sto} {acc : List D} : lcD vs G T A [] δ S acc = some (.ok acc S) := rfl
theorem lc_nm {A : DE} {i : Nat} {d : D} {ds : List D} {δ : Env} {S : Sto} {acc : List D} : lcD [i] (gNm i) tYesD A (d :: ds) δ S acc =
    bndL (A ((wipeD δ [i]).set i (some d)) S) fun y S2 => if acc.length < big then lcD [i] (gNm i) tYesD A ds δ S2 (acc ++ [y]) else none := rfl
theorem lc_at {A : DE} {vs : List Nat} {G : DG} {d : D} {ds : List D} {δ δ1 : Env} {S : Sto} {acc : List D} (h : G d (wipeD δ vs) S = some δ1) : lcD vs G tYesD A (d :: ds) δ S acc =
    bndL (A δ1 S) fun y S2 => if acc.length < big then lcD vs G tYesD A ds δ S2 (acc ++ [y]) else none := by
  show (match G d (wipeD δ vs) S with
    | none => none
    | some δ1 => bndL (tYesD δ1 S) fun b S1 => if b = true then bndL (A δ1 S1) fun y S2 => if acc.length < big then lcD vs G tYesD A ds δ S2 (acc ++ [y]) else none
      else lcD vs G tYesD A ds δ S1 acc) = _
  rw [h]
  rfl
/-- a comprehension whose turns leave the store as it is -/
theorem lc_map {A : DE} {vs : List Nat} {G : DG} {δ : Env} {S : Sto} {f : D → D} : ∀ {ds acc : List D}, (∀ d ∈ ds, ∃ δ1, G d (wipeD δ vs) S = some δ1 ∧ A δ1 S = some (.ok (f d) S)) → acc.length + ds.length ≤ big → lcD vs G tYesD A ds δ S acc = some (.ok (acc ++ ds.map f) S)
  | [], acc, _, _ => by
    rw [lc_end, List.map_nil, List.append_nil]
  | d :: ds, acc, h, hl => by
    obtain ⟨δ1, h1, h2⟩ := h d List.mem_cons_self
    rw [List.length_cons] at hl
    rw [lc_at h1, h2, bndL_ok, if_pos (by omega), lc_map (fun x hx => h x (List.mem_cons_of_mem _ hx)) (by rw [List.length_append, List.length_singleton]; omega), List.append_assoc]
    rfl

/-! ### the pen -/
def pen (cs : List Int) (a l : Int) : Ob := .dic [(.inr "cells", .lst (cs.map .int)), (.inr "at", .int a), (.inr "left", .int l)]
section
variable {S : Sto} {cs : List Int} {a l b : Int}
theorem ix_cells (h : S[0]? = some (pen cs a l)) : ixV (.ref 0) (.str "cells") S = some (.lst (cs.map .int), S) := by
  unfold ixV dicOf
  simp only [h, pen]
  rfl
theorem ix_at (h : S[0]? = some (pen cs a l)) : ixV (.ref 0) (.str "at") S = some (.int a, S) := by
  unfold ixV dicOf
  simp only [h, pen]
  rfl
theorem ix_left (h : S[0]? = some (pen cs a l)) : ixV (.ref 0) (.str "left") S = some (.int l, S) := by
  unfold ixV dicOf
  simp only [h, pen]
  rfl
theorem set_at (h : S[0]? = some (pen cs a l)) : setV (.ref 0) (.str "at") (.int b) S = some (S.set 0 (pen cs b l)) := by
  unfold setV
  simp only [h, pen]
  rfl
theorem set_left (h : S[0]? = some (pen cs a l)) : setV (.ref 0) (.str "left") (.int b) S = some (S.set 0 (pen cs a b)) := by
  unfold setV
  simp only [h, pen]
  rfl
theorem at_set (h : S[0]? = some (pen cs a l)) (o : Ob) : (S.set 0 o)[0]? = some o := by
  have : 0 < S.length := (List.getElem?_eq_some_iff.mp h).1
  rw [List.getElem?_set_self this]
end
mutual
/-- plain data of depth k at most, its texts sound -/
def shD : Nat → D → Bool
  | _, .non => true
  | _, .bl _ => true
  | _, .int _ => true
  | _, .str s => PyData.strOk s
  | 0, .tup _ => false
  | k + 1, .tup ds => shDs k ds
  | 0, .lst _ => false
  | k + 1, .lst ds => shDs k ds
  | _, .scr _ => false
  | _, .ref _ => false
  | _, .fn _ => false
  | _, .ty _ => false
def shDs : Nat → List D → Bool
  | _, [] => true
  | k, d :: ds => shD k d && shDs k ds
end
mutual
theorem shD_py : ∀ {k : Nat} {d : D}, shD k d = true → ∃ x, py d = some x ∧ x.canLay0 = true ∧ x.depth ≤ k
  | _, .non, _ => ⟨.none, rfl, rfl, Nat.zero_le _⟩
  | _, .bl b, _ => ⟨.bool b, rfl, rfl, Nat.zero_le _⟩
  | _, .int i, _ => ⟨.int i, rfl, rfl, Nat.zero_le _⟩
  | _, .str s, h => ⟨.str s, rfl, h, Nat.zero_le _⟩
  | k + 1, .tup ds, h => by
    obtain ⟨xs, h1, h2, h3⟩ := shDs_py (k := k) (ds := ds) h
    exact ⟨.tuple xs, by show (pys ds).map PyData.tuple = _; rw [h1]; rfl, h2, Nat.succ_le_succ h3⟩
  | k + 1, .lst ds, h => by
    obtain ⟨xs, h1, h2, h3⟩ := shDs_py (k := k) (ds := ds) h
    exact ⟨.list xs, by show (pys ds).map PyData.list = _; rw [h1]; rfl, h2, Nat.succ_le_succ h3⟩
theorem shDs_py : ∀ {k : Nat} {ds : List D}, shDs k ds = true → ∃ xs, pys ds = some xs ∧ PyData.canLayAll0 xs = true ∧ PyData.depthAll xs ≤ k
  | _, [], _ => ⟨[], rfl, rfl, Nat.zero_le _⟩
  | k, d :: ds, h => by
    have h' : (shD k d && shDs k ds) = true := h
    rw [Bool.and_eq_true] at h'
    obtain ⟨x, h1, h2, h3⟩ := shD_py h'.1
    obtain ⟨xs, h4, h5, h6⟩ := shDs_py h'.2
    refine ⟨x :: xs, ?_, ?_, Nat.max_le.mpr ⟨h3, h6⟩⟩
    · show (match py d, pys ds with | some x, some xs => some (x :: xs) | _, _ => none) = _
      rw [h1, h4]
    · show (x.canLay0 && PyData.canLayAll0 xs) = true
      rw [h2, h5]
      rfl
end
theorem pys_nil_iff : ∀ {ds : List D} {xs : List PyData}, pys ds = some xs → (PyData.eqvAll xs [] = decide (ds = []))
  | [], xs, h => by
    cases h
    rfl
  | d :: ds, xs, h => by
    have h' : (match py d, pys ds with | some x, some xs => some (x :: xs) | _, _ => none) = some xs := h
    split at h'
    · cases h'
      rfl
    · cases h'
theorem ne_nil {x : D} {ds : List D} {S : Sto} (hx : lstOf S x = some ds) (h : shDs 60 ds = true) : neV' x (.lst []) S = some (.bl (!decide (ds = [])), S) := by
  obtain ⟨xs, h1, h2, h3⟩ := shDs_py h
  have hp : pyS S x = some (.list xs) := by
    cases x with
    | lst es =>
      cases hx
      show (pys ds).map PyData.list = _
      rw [h1]
      rfl
    | ref n =>
      show (match lstOf S (.ref n) with | some ds => (pys ds).map PyData.list | none => none) = _
      rw [hx]
      show (pys ds).map PyData.list = _
      rw [h1]
      rfl
    | _ => cases hx
  have hs : SeqAt.shaped (.list xs) = true := by
    unfold SeqAt.shaped
    rw [Bool.and_eq_true]
    refine ⟨h2, decide_eq_true ?_⟩
    show PyData.depthAll xs + 1 ≤ 64
    omega
  have he : eqs x (.lst []) = none := by
    cases x with
    | lst es => rfl
    | ref n => rfl
    | _ => cases hx
  unfold neV' eqvV
  rw [he, hp]
  show (if SeqAt.shaped (PyData.list xs) = true ∧ SeqAt.shaped (PyData.list []) = true then some (PyData.eqv (.list xs) (.list [])) else none).map _ = _
  rw [if_pos ⟨hs, by decide +kernel⟩]
  show some (D.bl (!PyData.eqvAll xs []), S) = _
  rw [pys_nil_iff h1]
theorem shDs_ints : ∀ (k : Nat) (cs : List Int), shDs k (cs.map D.int) = true
  | _, [] => rfl
  | k, c :: cs => by
    show (shD k (.int c) && shDs k (cs.map D.int)) = true
    rw [shDs_ints k cs]
    rfl
theorem ixN_nat {n : Nat} {i : Int} (h0 : 0 ≤ i) (h : i < n) : ixN n i = some i.toNat := by
  unfold ixN
  simp only [h0, h, if_true, if_false, and_self] <;> first | rfl | (split <;> first | rfl | omega)
theorem ixl {cs : List Int} {S : Sto} {i : Int} (h0 : 0 ≤ i) (h : i < cs.length) : ixV (.lst (cs.map .int)) (.int i) S = some (.int (cs.getD i.toNat 0), S) := by
  have hi : i.toNat < cs.length := by omega
  have e : L2.atI (cs.map D.int) i = some (.int (cs.getD i.toNat 0)) := by
    unfold L2.atI
    rw [List.length_map, ixN_nat h0 h]
    show (cs.map D.int)[i.toNat]? = _
    rw [List.getElem?_map, List.getElem?_eq_getElem hi, List.getD_eq_getElem?_getD, List.getElem?_eq_getElem hi]
    rfl
  show (L2.atI (cs.map D.int) i).map (fun d => (d, S)) = _
  rw [e]
  rfl
def mix (a cell m : Int) : Int := ((((cell % 2147483563 + 70997 * a + 79) ^ 5 % 2147483647) * (a + 65539) + 85009 * a * a) ^ 3 % 2147483399) / 32 % m
theorem mix_lt {a cell m : Int} (h : 0 < m) : 0 ≤ mix a cell m ∧ mix a cell m < m := ⟨Int.emod_nonneg _ (by omega), Int.emod_lt_of_pos _ h⟩
theorem abs_le {x b : Int} (h1 : 0 ≤ x) (h2 : x < b) : x.natAbs < b.toNat := by omega

/-! ### the store at a def's end -/
theorem lowDs_ints (n : Nat) : ∀ cs : List Int, lowDs n (cs.map D.int) = true
  | [] => rfl
  | c :: cs => by
    show (lowD n (.int c) && lowDs n (cs.map D.int)) = true
    rw [lowDs_ints n cs]
    rfl
theorem lowDs_strs (n : Nat) : ∀ cs : List Str, lowDs n (cs.map D.str) = true
  | [] => rfl
  | c :: cs => by
    show (lowD n (.str c) && lowDs n (cs.map D.str)) = true
    rw [lowDs_strs n cs]
    rfl
theorem lowDs_map {α : Type} (n : Nat) (f : α → D) (h : ∀ x, lowD n (f x) = true) : ∀ l : List α, lowDs n (l.map f) = true
  | [] => rfl
  | c :: cs => by
    show (lowD n (f c) && lowDs n (cs.map f)) = true
    rw [lowDs_map n f h cs, h c]
    rfl
theorem lowO_pen (n : Nat) (cs : List Int) (a l : Int) : lowO n (pen cs a l) = true := by
  show (lowDs n (cs.map D.int) && (true && (true && true))) = true
  rw [lowDs_ints]
  rfl
/-- a pen that was asked m times at most -/
def PenOk (m : Nat) (o : Ob) : Prop := ∃ cs a l, o = pen cs a l ∧ 0 ≤ a ∧ a ≤ (m : Int) ∧ 0 ≤ l
theorem PenOk.mono {m n : Nat} {o : Ob} (h : PenOk m o) (k : m ≤ n) : PenOk n o := by
  obtain ⟨cs, a, l, h1, h2, h3, h4⟩ := h
  exact ⟨cs, a, l, h1, h2, by omega, h4⟩
theorem PenOk.low {m n : Nat} {o : Ob} (h : PenOk m o) : lowO n o = true := by
  obtain ⟨cs, a, l, h1, _⟩ := h
  rw [h1]
  exact lowO_pen n cs a l
theorem cut_ok {F : Fn} {ds : List D} {o o' : Ob} {T X : Sto} {v : D} (h : F ds (o :: T) = some (.ok v (o' :: (T ++ X)))) (hv : lowD (T.length + 1) v = true) (ho : lowO (T.length + 1) o' = true) : cutF F ds (o :: T) = some (.ok v (o' :: T)) := by
  have k : Keeps (o :: T) (o' :: (T ++ X)) := by
    refine ⟨by simp, fun j oj hj e => ?_⟩
    cases j with
    | zero =>
      right
      have : o' = oj := by simpa using e
      rw [← this]
      exact ho
    | succ j =>
      left
      have hj' : j < T.length := by simpa using hj
      rw [List.getElem?_cons_succ, List.getElem?_append_left hj'] at e
      rw [List.getElem?_cons_succ]
      exact e
  unfold cutF
  rw [h]
  show (match outD (T.length + 1) (o' :: (T ++ X)) v with
    | some d' => if Keeps (o :: T) (o' :: (T ++ X)) then some (Out.ok d' ((o' :: (T ++ X)).take (T.length + 1))) else none
    | none => none) = _
  unfold outD
  rw [if_pos hv]
  show (if Keeps (o :: T) (o' :: (T ++ X)) then some (Out.ok v ((o' :: (T ++ X)).take (T.length + 1))) else none) = _
  rw [if_pos k]
  simp
theorem keeps_app (S X : Sto) : Keeps S (S ++ X) := ⟨by simp, fun j oj hj e => .inl (by rw [List.getElem?_append_left hj] at e; exact e)⟩
theorem cut_pure {F : Fn} {ds : List D} {S X : Sto} {v : D} (h : F ds S = some (.ok v (S ++ X))) (hv : lowD S.length v = true) : cutF F ds S = some (.ok v S) := by
  unfold cutF
  rw [h]
  show (match outD S.length (S ++ X) v with
    | some d' => if Keeps S (S ++ X) then some (Out.ok d' ((S ++ X).take S.length)) else none
    | none => none) = _
  unfold outD
  rw [if_pos hv]
  show (if Keeps S (S ++ X) then some (Out.ok v ((S ++ X).take S.length)) else none) = _
  rw [if_pos (keeps_app S X)]
  simp
/-- a list that is handed out -/
theorem cut_list {F : Fn} {ds xs : List D} {S X : Sto} (h : F ds S = some (.ok (.ref S.length) (S ++ Ob.lst xs :: X))) (hx : lowDs S.length xs = true) : cutF F ds S = some (.ok (.lst xs) S) := by
  unfold cutF
  rw [h]
  have e : outD S.length (S ++ Ob.lst xs :: X) (.ref S.length) = some (.lst xs) := by
    unfold outD
    rw [if_neg (by show ¬ decide (S.length < S.length) = true; simp)]
    show (match (S ++ Ob.lst xs :: X)[S.length]? with
      | some (.lst xs) => if S.length ≤ S.length ∧ lowDs S.length xs = true then some (D.lst xs) else none
      | _ => none) = _
    rw [List.getElem?_append_right (Nat.le_refl _), Nat.sub_self]
    show (if S.length ≤ S.length ∧ lowDs S.length xs = true then some (D.lst xs) else none) = _
    rw [if_pos ⟨Nat.le_refl _, hx⟩]
  show (match outD S.length (S ++ Ob.lst xs :: X) (.ref S.length) with
    | some d' => if Keeps S (S ++ Ob.lst xs :: X) then some (Out.ok d' ((S ++ Ob.lst xs :: X).take S.length)) else none
    | none => none) = _
  rw [e]
  show (if Keeps S (S ++ Ob.lst xs :: X) then some (Out.ok (D.lst xs) ((S ++ Ob.lst xs :: X).take S.length)) else none) = _
  rw [if_pos (keeps_app S _)]
  simp
/-- while: so many turns are enough -/
theorem while_mono {C : DT} {B : DS} : ∀ {n : Nat} {δ : Env} {S : Sto} {o : SOut}, whileD C B n δ S = some o → whileD C B (n + 1) δ S = some o
  | 0, _, _, _, h => by cases h
  | n + 1, δ, S, o, h => by
    have h' : bndS (C δ S) δ (fun b S1 => if b = true then contD (B δ S1) (whileD C B n) else some (.nx δ S1)) = some o := h
    show bndS (C δ S) δ (fun b S1 => if b = true then contD (B δ S1) (whileD C B (n + 1)) else some (.nx δ S1)) = some o
    cases c : C δ S with
    | none => rw [c] at h'; cases h'
    | some oc =>
      rw [c] at h'
      cases oc with
      | exc x S1 => exact h'
      | ok b S1 =>
        rw [bndS_ok] at h' ⊢
        cases b with
        | false => exact h'
        | true =>
          rw [if_pos rfl] at h' ⊢
          cases e : B δ S1 with
          | none => rw [e] at h'; cases h'
          | some ob =>
            rw [e] at h'
            cases ob with
            | nx δ2 S2 => exact while_mono (n := n) h'
            | ct δ2 S2 => exact while_mono (n := n) h'
            | brk δ2 S2 => exact h'
            | ret d S2 => exact h'
            | exc x δ2 S2 => exact h'
theorem while_le {C : DT} {B : DS} {n m : Nat} {δ : Env} {S : Sto} {o : SOut} (h : whileD C B n δ S = some o) (k : n ≤ m) : whileD C B m δ S = some o := by
  induction k with
  | refl => exact h
  | step _ ih => exact while_mono ih
theorem while_eq {C : DT} {B : DS} {n : Nat} {δ : Env} {S : Sto} {o : SOut} (h : whileD C B n δ S = some o) : sWhile C B δ S = some o := by
  have ex : ∃ n, (whileD C B n δ S).isSome = true := ⟨n, by rw [h]; rfl⟩
  unfold sWhile
  rw [dif_pos ex]
  obtain ⟨o2, h2⟩ := Option.isSome_iff_exists.mp ex.choose_spec
  have a1 := while_le h (Nat.le_max_left n ex.choose)
  have a2 := while_le h2 (Nat.le_max_right n ex.choose)
  rw [a1] at a2
  cases a2
  exact h2
end Cw

set_option maxRecDepth 100000
set_option maxHeartbeats 2000000
set_option linter.all false
/-! Owned lists in a store; books as data. -/
namespace Cw
open PySem PySem.Spec PyProof.Rows L2

section
variable {S : Sto} {n : Nat} {ds : List D} {d : D} {i : Int}
theorem ty_ref (h : S[n]? = some (.lst ds)) : tyD S "list" (.ref n) = true := by
  unfold tyD lsOf lstOf
  simp only [h]
  decide
theorem len_ref (h : S[n]? = some (.lst ds)) : len1 (.ref n) S = some (.int ds.length, S) := by
  unfold len1 items
  simp only [h]
  rfl
theorem own_ref (h : S[n]? = some (.lst ds)) : ownL S (.ref n) = some (n, ds) := by
  unfold ownL
  simp only [h]
theorem tuple_ref (h : S[n]? = some (.lst ds)) : tuple1 (.ref n) S = some (.tup ds, S) := by
  unfold tuple1 lsOf lstOf
  simp only [h]
  rfl
theorem seqIndex_nat {m : Nat} (h0 : 0 ≤ i) (h : i < m) : seqIndex? i m = some i.toNat := StrLaws.seqIndex_nonneg h0 h
theorem pop_ref (h : S[n]? = some (.lst ds)) (h0 : 0 ≤ i) (h1 : i < ds.length) (h2 : ds.length < 1048576) : popV (.ref n) [.int i] S = some (ds.getD i.toNat .non, S.set n (.lst (ds.eraseIdx i.toNat))) := by
  have hi : i.toNat < ds.length := by omega
  have hs : isSmall i := by unfold isSmall; omega
  unfold popV
  rw [own_ref h]
  show (if isSmall i then (match seqIndex? i ds.length with
    | some k => match ds[k]? with
      | some d => some (d, S.set n (.lst (ds.eraseIdx k)))
      | none => none
    | none => none) else none) = _
  rw [if_pos hs, seqIndex_nat h0 h1]
  show (match ds[i.toNat]? with
      | some d => some (d, S.set n (.lst (ds.eraseIdx i.toNat)))
      | none => none) = _
  rw [List.getD_eq_getElem?_getD, List.getElem?_eq_getElem hi]
  rfl
theorem app_ref (h : S[n]? = some (.lst ds)) (h1 : ds.length < big) : appendV (.ref n) [d] S = some (.non, S.set n (.lst (ds ++ [d]))) := by
  unfold appendV
  rw [own_ref h]
  exact if_pos h1
end
theorem ixN_ok {n : Nat} {i : Int} (h0 : 0 ≤ i) (h : i < n) : ixN n i = some i.toNat := ixN_nat h0 h
theorem atI_ok {ds : List D} {i : Int} (h0 : 0 ≤ i) (h : i < ds.length) : L2.atI ds i = some (ds.getD i.toNat .non) := by
  have hi : i.toNat < ds.length := by omega
  unfold L2.atI
  rw [ixN_nat h0 h]
  show ds[i.toNat]? = _
  rw [List.getD_eq_getElem?_getD, List.getElem?_eq_getElem hi]
  rfl
theorem ix_ref {S : Sto} {n : Nat} {ds : List D} {i : Int} (h : S[n]? = some (.lst ds)) (h0 : 0 ≤ i) (h1 : i < ds.length) : ixV (.ref n) (.int i) S = some (ds.getD i.toNat .non, S) := by
  unfold ixV dicOf items
  simp only [h]
  rw [atI_ok h0 h1]
  rfl
theorem ix_tup {S : Sto} {ds : List D} {i : Int} (h0 : 0 ≤ i) (h1 : i < ds.length) : ixV (.tup ds) (.int i) S = some (ds.getD i.toNat .non, S) := by
  show (L2.atI ds i).map (fun d => (d, S)) = _
  rw [atI_ok h0 h1]
  rfl
theorem ix_lst {S : Sto} {ds : List D} {i : Int} (h0 : 0 ≤ i) (h1 : i < ds.length) : ixV (.lst ds) (.int i) S = some (ds.getD i.toNat .non, S) := by
  show (L2.atI ds i).map (fun d => (d, S)) = _
  rw [atI_ok h0 h1]
  rfl
theorem add_tt {a b : List D} {S : Sto} (h : a.length + b.length ≤ big) : addV (.tup a) (.tup b) S = some (.tup (a ++ b), S) := if_pos h
theorem add_ll {a b : List D} {S : Sto} (h : a.length + b.length ≤ big) : addV (.lst a) (.lst b) S = some (.lst (a ++ b), S) := if_pos h
theorem lst_ref {S : Sto} {n : Nat} {ds : List D} (h : S[n]? = some (.lst ds)) : lstOf S (.ref n) = some ds := by
  unfold lstOf
  simp only [h]
theorem shDs_map {α : Type} {k : Nat} {f : α → D} : ∀ {l : List α}, (∀ x ∈ l, shD k (f x) = true) → shDs k (l.map f) = true
  | [], _ => rfl
  | x :: l, h => by
    show (shD k (f x) && shDs k (l.map f)) = true
    rw [h x List.mem_cons_self, shDs_map fun y hy => h y (List.mem_cons_of_mem _ hy)]
    rfl
section
variable {o A B : Ob} {T R : Sto}
theorem at1 : (o :: (T ++ A :: R))[T.length + 1]? = some A := by simp
theorem at2 : (o :: (T ++ A :: B :: R))[T.length + 2]? = some B := by
  rw [show T.length + 2 = (T.length + 1) + 1 by omega, List.getElem?_cons_succ, List.getElem?_append_right (by omega)]
  simp
theorem set1 {X : Ob} : (o :: (T ++ A :: R)).set (T.length + 1) X = o :: (T ++ X :: R) := by simp
theorem set2 {X : Ob} : (o :: (T ++ A :: B :: R)).set (T.length + 2) X = o :: (T ++ A :: X :: R) := by
  rw [show T.length + 2 = (T.length + 1) + 1 by omega, List.set_cons_succ, List.set_append_right _ _ (by omega)]
  simp
end

theorem two (n : Nat) : n + 1 + 1 = n + 2 := rfl
theorem big_eq : big = 1000000 := rfl
theorem erase_map {α β : Type} (f : α → β) : ∀ (l : List α) (n : Nat), (l.map f).eraseIdx n = (l.eraseIdx n).map f
  | [], _ => rfl
  | _ :: _, 0 => rfl
  | x :: l, n + 1 => by
    show f x :: (l.map f).eraseIdx n = f x :: (l.eraseIdx n).map f
    rw [erase_map f l n]
theorem getD_map {α : Type} (f : α → D) {l : List α} {n : Nat} (h : n < l.length) : (l.map f).getD n .non = f l[n] := by
  rw [List.getD_eq_getElem?_getD, List.getElem?_map, List.getElem?_eq_getElem h]
  rfl
theorem perm_erase {α : Type} : ∀ {l : List α} {n : Nat} (h : n < l.length), (l[n] :: l.eraseIdx n).Perm l
  | x :: l, 0, _ => List.Perm.refl _
  | x :: l, n + 1, h => by
    have h' : n < l.length := by simpa using h
    have ih := perm_erase (l := l) (n := n) h'
    show (l[n] :: x :: l.eraseIdx n).Perm (x :: l)
    exact (List.Perm.swap x l[n] _).trans (ih.cons x)

/-! ### books -/
def NAMES : List Str := ["a", "aa", "b", "ba", "c", "k", "l", "o", "zz", "zzzzzzzz", "m", "ma", "bounds", "wishes", "must", "if", "wish", "open", "to", "qq"]
def okName (s : Str) : Prop := s ∈ NAMES
theorem name_ok : ∀ s ∈ NAMES, PyData.strOk s = true := by decide +kernel
structure Wsh where
  k : Str
  ws : List Int
  must : Bool
  needs : Option (Str × Int)
def worthsD (ws : List Int) : D := .tup (ws.map .int)
def needsD : Option (Str × Int) → D
  | none => .non
  | some (a, b) => .tup [.str a, .int b]
def Wsh.d (w : Wsh) : D := .tup [.str w.k, worthsD w.ws, .bl w.must, needsD w.needs]
def boundD (b : Str × List Int) : D := .tup [.str b.1, worthsD b.2]
def bookD (W : List Wsh) (B : List (Str × List Int)) : D := .tup [.tup (W.map Wsh.d), .tup (B.map boundD)]
def okI (i : Int) : Prop := 0 ≤ i ∧ i ≤ 9999
def okWs (ws : List Int) : Prop := 1 ≤ ws.length ∧ ws.length ≤ 6 ∧ ws.Nodup ∧ ∀ i ∈ ws, okI i
def okNeeds (seen : List Str) : Option (Str × Int) → Prop
  | none => True
  | some (a, b) => a ∈ seen ∧ okName a ∧ okI b
def okW (w : Wsh) : Prop := okName w.k ∧ okWs w.ws
def okL : List Str → List Wsh → Prop
  | _, [] => True
  | seen, w :: r => w.k ∉ seen ∧ okNeeds seen w.needs ∧ okW w ∧ okL (seen ++ [w.k]) r
def okB (B : List (Str × List Int)) : Prop := (B.map (·.1)).Nodup ∧ B.length ≤ 8 ∧ ∀ b ∈ B, okName b.1 ∧ okWs b.2
def okBook (W : List Wsh) (B : List (Str × List Int)) : Prop := okL [] W ∧ W.length ≤ 6 ∧ okB B
theorem sh_worths {k : Nat} (ws : List Int) : shD (k + 1) (worthsD ws) = true := shDs_ints k ws
theorem sh_needs {k : Nat} {seen : List Str} {n : Option (Str × Int)} (h : okNeeds seen n) : shD (k + 1) (needsD n) = true := by
  cases n with
  | none => rfl
  | some p =>
    show (PyData.strOk p.1 && (true && true)) = true
    rw [name_ok _ h.2.1]
    rfl
theorem sh_wsh {k : Nat} {w : Wsh} {seen : List Str} (h : okName w.k) (h2 : okNeeds seen w.needs) : shD (k + 2) w.d = true := by
  show (PyData.strOk w.k && (shD (k + 1) (worthsD w.ws) && (true && (shD (k + 1) (needsD w.needs) && true)))) = true
  rw [name_ok _ h, sh_worths, sh_needs h2]
  rfl
theorem sh_bound {k : Nat} {b : Str × List Int} (h : okName b.1) : shD (k + 2) (boundD b) = true := by
  show (PyData.strOk b.1 && (shD (k + 1) (worthsD b.2) && true)) = true
  rw [name_ok _ h, sh_worths]
  rfl
theorem okL_mem {w : Wsh} : ∀ {W : List Wsh} {seen : List Str}, okL seen W → w ∈ W → okW w ∧ ∃ s, okNeeds s w.needs
  | x :: W, seen, h, hm => by
    rcases List.mem_cons.mp hm with e | e
    · subst e
      exact ⟨h.2.2.1, seen, h.2.1⟩
    · exact okL_mem h.2.2.2 e
theorem okL_snoc {w : Wsh} : ∀ {W : List Wsh} {seen : List Str}, okL seen W → w.k ∉ seen ++ W.map Wsh.k → okNeeds (seen ++ W.map Wsh.k) w.needs → okW w → okL seen (W ++ [w])
  | [], seen, _, h1, h2, h3 => by
    rw [List.map_nil, List.append_nil] at h1 h2
    exact ⟨h1, h2, h3, trivial⟩
  | x :: W, seen, h, h1, h2, h3 => by
    refine ⟨h.1, h.2.1, h.2.2.1, okL_snoc h.2.2.2 ?_ ?_ h3⟩
    · rw [List.append_assoc]
      exact h1
    · rw [List.append_assoc]
      exact h2
end Cw

set_option maxRecDepth 100000
set_option maxHeartbeats 2000000
set_option linter.all false
/-! Books as texts: what is written, how it is cut. -/
namespace Cw
open PySem PySem.Spec PyProof.Rows L2

def num (i : Int) : Str := Str.ofString (toString i)
def worthsT (ws : List Int) : Str := Txt.join "," (ws.map num)
def tailT : Option (Str × Int) → List Str
  | none => []
  | some (a, b) => ["if", a, num b]
def wordsT (w : Wsh) : List Str := w.k :: worthsT w.ws :: ((if w.must then [("must" : Str)] else []) ++ tailT w.needs)
def wishT (w : Wsh) : Str := Txt.join " " (wordsT w)
def boundT (b : Str × List Int) : Str := b.1 ++ " " ++ worthsT b.2
def linesT (W : List Wsh) (B : List (Str × List Int)) : List Str := "wishes" :: (W.map wishT ++ (("bounds" : Str) :: B.map boundT))
def endT (L : List Str) : Str := Txt.join "" (L.map fun l : Str => l ++ ("\n" : Str))
def bookT (W : List Wsh) (B : List (Str × List Int)) : Str := endT (linesT W B)

theorem tl_sp : TL.tl " " = [32] := by decide +kernel
theorem tl_cm : TL.tl "," = [44] := by decide +kernel
theorem tl_nl : TL.tl "\n" = [10] := by decide +kernel
theorem tl_em : TL.tl "" = [] := by decide +kernel
theorem num_tl {i : Int} (h : 0 ≤ i) : TL.tl (num i) = TL.numL i.toNat := by
  have e : ((i.toNat : Nat) : Int) = i := by omega
  have z := TL.tl_num i.toNat
  rw [e] at z
  exact z
theorem num_len {i : Int} (h : okI i) : (num i).length ≤ 4 := by
  obtain ⟨h1, h2⟩ := h
  rw [TL.len_tl, num_tl h1]
  exact TL.numL_len (by decide) (by omega)
theorem num_int {i : Int} (h : okI i) : PySem.intText? (num i) = some i := by
  obtain ⟨h1, h2⟩ := h
  have e : ((i.toNat : Nat) : Int) = i := by omega
  have l : (TL.numL i.toNat).length ≤ 4300 := Nat.le_trans (TL.numL_len (k := 4) (by decide) (by omega)) (by decide)
  have z := TL.int_num l
  rw [e] at z
  exact z
theorem num_digits {i : Int} (h : 0 ≤ i) : ∀ c ∈ TL.tl (num i), 48 ≤ c ∧ c ≤ 57 := fun c hc => by
  rw [num_tl h] at hc
  exact TL.numL_digits _ c hc
/-- the signs of a joined text -/
theorem joinL_mem {S : List Nat} {c : Nat} : ∀ {ps : List (List Nat)}, c ∈ TL.joinL S ps → c ∈ S ∨ ∃ p ∈ ps, c ∈ p
  | [], h => by cases h
  | [p], h => .inr ⟨p, List.mem_singleton.mpr rfl, h⟩
  | p :: q :: r, h => by
    have h' : c ∈ p ++ (S ++ TL.joinL S (q :: r)) := h
    rcases List.mem_append.mp h' with z | z
    · exact .inr ⟨p, List.mem_cons_self, z⟩
    · rcases List.mem_append.mp z with z | z
      · exact .inl z
      · rcases joinL_mem z with z | ⟨x, hx, z⟩
        · exact .inl z
        · exact .inr ⟨x, List.mem_cons_of_mem _ hx, z⟩
theorem join_mem {a : Str} {ys : List Str} {c : Nat} (h : c ∈ TL.tl (Txt.join a ys)) : c ∈ TL.tl a ∨ ∃ y ∈ ys, c ∈ TL.tl y := by
  rw [TL.join_eq, TL.tl_join] at h
  rcases joinL_mem h with z | ⟨p, hp, z⟩
  · exact .inl z
  · obtain ⟨y, hy, e⟩ := List.mem_map.mp hp
    exact .inr ⟨y, hy, by rw [e]; exact z⟩
theorem name_low : ∀ s ∈ NAMES, ∀ c ∈ TL.tl s, 97 ≤ c ∧ c ≤ 122 := by decide +kernel
theorem name_len : ∀ s ∈ NAMES, 1 ≤ s.length ∧ s.length ≤ 8 := by decide +kernel
theorem worths_mem {ws : List Int} (h : okWs ws) : ∀ c ∈ TL.tl (worthsT ws), c = 44 ∨ (48 ≤ c ∧ c ≤ 57) := fun c hc => by
  rcases join_mem hc with z | ⟨y, hy, z⟩
  · rw [tl_cm] at z
    exact .inl (List.mem_singleton.mp z)
  · obtain ⟨i, hi, e⟩ := List.mem_map.mp hy
    subst e
    exact .inr (num_digits (h.2.2.2 i hi).1 c z)
theorem worths_ne {ws : List Int} (h : okWs ws) : ws.map num ≠ [] := fun e => by
  have z := h.1
  rw [List.map_eq_nil_iff.mp e] at z
  cases z
theorem split_worths {ws : List Int} (h : okWs ws) : Txt.split (worthsT ws) "," = ws.map num :=
  TL.split_join (s := 44) (S := []) tl_cm (by decide +kernel) (worths_ne h) fun p hp hc => by
    obtain ⟨i, hi, e⟩ := List.mem_map.mp hp
    subst e
    have := num_digits (h.2.2.2 i hi).1 44 hc
    omega
/-- a wish's words hold no blank -/
theorem words_mem {w : Wsh} {seen : List Str} (h : okW w) (h2 : okNeeds seen w.needs) : ∀ y ∈ wordsT w, ∀ c ∈ TL.tl y, 44 ≤ c ∧ c ≤ 122 := fun y hy c hc => by
  unfold wordsT at hy
  rcases List.mem_cons.mp hy with e | hy
  · subst e
    have := name_low _ h.1 c hc
    omega
  · rcases List.mem_cons.mp hy with e | hy
    · subst e
      have := worths_mem h.2 c hc
      omega
    · rcases List.mem_append.mp hy with hy | hy
      · cases hm : w.must with
        | false =>
          rw [hm] at hy
          cases hy
        | true =>
          rw [hm] at hy
          have e : y = "must" := List.mem_singleton.mp hy
          subst e
          have := name_low "must" (by decide +kernel) c hc
          omega
      · cases hn : w.needs with
        | none =>
          rw [hn] at hy
          cases hy
        | some p =>
          rw [hn] at hy h2
          have hy' : y ∈ [("if" : Str), p.1, num p.2] := hy
          rcases List.mem_cons.mp hy' with e | hy'
          · subst e
            have := name_low "if" (by decide +kernel) c hc
            omega
          · rcases List.mem_cons.mp hy' with e | hy'
            · subst e
              have := name_low _ h2.2.1 c hc
              omega
            · rw [List.mem_singleton.mp hy'] at hc
              have := num_digits h2.2.2.1 c hc
              omega
theorem split_wish {w : Wsh} {seen : List Str} (h : okW w) (h2 : okNeeds seen w.needs) : Txt.split (wishT w) " " = wordsT w :=
  TL.split_join (s := 32) (S := []) tl_sp (by decide +kernel) (List.cons_ne_nil _ _) fun p hp hc => by
    have := words_mem h h2 p hp 32 hc
    omega
theorem bound_join (b : Str × List Int) : boundT b = Txt.join " " [b.1, worthsT b.2] := by
  rw [TL.join_eq]
  rfl
theorem split_bound {b : Str × List Int} (h : okName b.1) (h2 : okWs b.2) : Txt.split (boundT b) " " = [b.1, worthsT b.2] := by
  rw [bound_join]
  refine TL.split_join (s := 32) (S := []) tl_sp (by decide +kernel) (List.cons_ne_nil _ _) fun p hp hc => ?_
  rcases List.mem_cons.mp hp with e | hp
  · subst e
    have := name_low _ h 32 hc
    omega
  · rw [List.mem_singleton.mp hp] at hc
    have := worths_mem h2 32 hc
    omega
theorem wish_mem {w : Wsh} {seen : List Str} (h : okW w) (h2 : okNeeds seen w.needs) : ∀ c ∈ TL.tl (wishT w), 32 ≤ c ∧ c ≤ 122 := fun c hc => by
  rcases join_mem hc with z | ⟨y, hy, z⟩
  · rw [tl_sp] at z
    rw [List.mem_singleton.mp z]
    omega
  · have := words_mem h h2 y hy c z
    omega
theorem bound_mem {b : Str × List Int} (h : okName b.1) (h2 : okWs b.2) : ∀ c ∈ TL.tl (boundT b), 32 ≤ c ∧ c ≤ 122 := fun c hc => by
  unfold boundT at hc
  rw [TL.tl_append, TL.tl_append] at hc
  rcases List.mem_append.mp hc with z | z
  · rcases List.mem_append.mp z with z | z
    · have := name_low _ h c z
      omega
    · rw [tl_sp] at z
      rw [List.mem_singleton.mp z]
      omega
  · have := worths_mem h2 c z
    omega
theorem lines_mem {W : List Wsh} {B : List (Str × List Int)} (h : okBook W B) : ∀ y ∈ linesT W B, ∀ c ∈ TL.tl y, 32 ≤ c ∧ c ≤ 122 := fun y hy c hc => by
  rcases List.mem_cons.mp hy with e | hy
  · subst e
    have := name_low "wishes" (by decide +kernel) c hc
    omega
  · rcases List.mem_append.mp hy with hy | hy
    · obtain ⟨w, hw, e⟩ := List.mem_map.mp hy
      subst e
      obtain ⟨h1, s, h2⟩ := okL_mem h.1 hw
      exact wish_mem h1 h2 c hc
    · rcases List.mem_cons.mp hy with e | hy
      · subst e
        have := name_low "bounds" (by decide +kernel) c hc
        omega
      · obtain ⟨b, hb, e⟩ := List.mem_map.mp hy
        subst e
        have z := h.2.2.2.2 b hb
        exact bound_mem z.1 z.2 c hc
theorem end_tl : ∀ L : List Str, TL.tl (endT L) = TL.joinL [10] ((L ++ [("" : Str)]).map TL.tl)
  | [] => by
    show TL.tl (Txt.join "" []) = TL.tl ""
    decide +kernel
  | [x] => by
    unfold endT
    rw [TL.join_eq, TL.tl_join]
    show TL.tl (x ++ "\n") = TL.tl x ++ ([10] ++ TL.tl "")
    rw [TL.tl_append, tl_nl, tl_em]
    rfl
  | x :: y :: r => by
    have ih := end_tl (y :: r)
    unfold endT at ih ⊢
    rw [TL.join_eq, TL.tl_join, tl_em] at ih ⊢
    show TL.tl (x ++ "\n") ++ ([] ++ TL.joinL [] (((y :: r).map fun l : Str => l ++ ("\n" : Str)).map TL.tl)) = TL.tl x ++ ([10] ++ TL.joinL [10] (((y :: r) ++ [("" : Str)]).map TL.tl))
    rw [ih, TL.tl_append, tl_nl, List.append_assoc, List.nil_append]
theorem end_join (L : List Str) : endT L = Txt.join "\n" (L ++ [("" : Str)]) := TL.ext_tl (by rw [end_tl, TL.join_eq, TL.tl_join, tl_nl])
theorem split_book {W : List Wsh} {B : List (Str × List Int)} (h : okBook W B) : Txt.split (bookT W B) "\n" = linesT W B ++ [("" : Str)] := by
  unfold bookT
  rw [end_join]
  refine TL.split_join (s := 10) (S := []) tl_nl (by decide +kernel) (by simp) fun p hp hc => ?_
  rcases List.mem_append.mp hp with z | z
  · have := lines_mem h p z 10 hc
    omega
  · rw [List.mem_singleton.mp z, tl_em] at hc
    cases hc

/-! ### how long -/
theorem join_len {a : Str} {B : Nat} {ys : List Str} (h : ∀ y ∈ ys, y.length ≤ B) : (Txt.join a ys).length ≤ ys.length * B + ys.length * a.length := by
  have z := StrLaws.join_length_le a ys
  rw [← TL.join_eq] at z
  have q := StrLaws.sumLen_le ys h
  omega
theorem join_room {a : Str} {B : Nat} {ys : List Str} (h : ∀ y ∈ ys, y.length ≤ B) : (ys.map (·.length)).sum + ys.length * a.length ≤ ys.length * B + ys.length * a.length := by
  have q := StrLaws.sumLen_le ys h
  omega
theorem len_sp : (" " : Str).length = 1 := by decide +kernel
theorem len_cm : ("," : Str).length = 1 := by decide +kernel
theorem len_nl : ("\n" : Str).length = 1 := by decide +kernel
theorem worths_len {ws : List Int} (h : okWs ws) : (worthsT ws).length ≤ 30 := by
  have z := join_len (a := ",") (B := 4) (ys := ws.map num) fun y hy => by
    obtain ⟨i, hi, e⟩ := List.mem_map.mp hy
    subst e
    exact num_len (h.2.2.2 i hi)
  rw [List.length_map, len_cm] at z
  have := h.2.1
  show (Txt.join "," (ws.map num)).length ≤ 30
  omega
theorem words_len {w : Wsh} {seen : List Str} (h : okW w) (h2 : okNeeds seen w.needs) : (wordsT w).length ≤ 6 ∧ ∀ y ∈ wordsT w, y.length ≤ 30 := by
  refine ⟨?_, fun y hy => ?_⟩
  · unfold wordsT
    rw [List.length_cons, List.length_cons, List.length_append]
    have a : (if w.must = true then [("must" : Str)] else []).length ≤ 1 := by split <;> decide
    have b : (tailT w.needs).length ≤ 3 := by
      cases w.needs with
      | none => decide
      | some p => exact Nat.le_refl _
    omega
  · rcases List.mem_cons.mp hy with e | hy
    · subst e
      have := name_len _ h.1
      omega
    · rcases List.mem_cons.mp hy with e | hy
      · subst e
        exact worths_len h.2
      · rcases List.mem_append.mp hy with hy | hy
        · cases hm : w.must with
          | false =>
            rw [hm] at hy
            cases hy
          | true =>
            rw [hm] at hy
            have e : y = "must" := List.mem_singleton.mp hy
            subst e
            decide +kernel
        · cases hn : w.needs with
          | none =>
            rw [hn] at hy
            cases hy
          | some p =>
            rw [hn] at hy h2
            have hy' : y ∈ [("if" : Str), p.1, num p.2] := hy
            rcases List.mem_cons.mp hy' with e | hy'
            · subst e
              decide +kernel
            · rcases List.mem_cons.mp hy' with e | hy'
              · subst e
                have := name_len _ h2.2.1
                omega
              · rw [List.mem_singleton.mp hy']
                have := num_len h2.2.2
                omega
theorem wish_len {w : Wsh} {seen : List Str} (h : okW w) (h2 : okNeeds seen w.needs) : (wishT w).length ≤ 200 := by
  obtain ⟨h3, h4⟩ := words_len h h2
  have z := join_len (a := " ") h4
  rw [len_sp] at z
  show (Txt.join " " (wordsT w)).length ≤ 200
  omega
theorem bound_len {b : Str × List Int} (h : okName b.1) (h2 : okWs b.2) : (boundT b).length ≤ 200 := by
  have e : (boundT b).length = b.1.length + 1 + (worthsT b.2).length := by
    show (b.1 ++ " " ++ worthsT b.2).length = _
    rw [Str.length_append, Str.length_append, len_sp]
  have := name_len _ h
  have := worths_len h2
  omega
theorem lines_len {W : List Wsh} {B : List (Str × List Int)} (h : okBook W B) : (linesT W B).length ≤ 16 ∧ ∀ y ∈ linesT W B, y.length ≤ 200 := by
  refine ⟨?_, fun y hy => ?_⟩
  · show (("wishes" : Str) :: (W.map wishT ++ (("bounds" : Str) :: B.map boundT)) : List Str).length ≤ 16
    rw [List.length_cons, List.length_append, List.length_cons, List.length_map, List.length_map]
    have := h.2.1
    have := h.2.2.2.1
    omega
  · rcases List.mem_cons.mp hy with e | hy
    · subst e
      decide +kernel
    · rcases List.mem_append.mp hy with hy | hy
      · obtain ⟨w, hw, e⟩ := List.mem_map.mp hy
        subst e
        obtain ⟨h1, s, h2⟩ := okL_mem h.1 hw
        exact wish_len h1 h2
      · rcases List.mem_cons.mp hy with e | hy
        · subst e
          decide +kernel
        · obtain ⟨b, hb, e⟩ := List.mem_map.mp hy
          subst e
          have z := h.2.2.2.2 b hb
          exact bound_len z.1 z.2
theorem book_len {W : List Wsh} {B : List (Str × List Int)} (h : okBook W B) : (bookT W B).length ≤ 5000 := by
  obtain ⟨h1, h2⟩ := lines_len h
  have z := join_len (a := "") (B := 201) (ys := (linesT W B).map fun l : Str => l ++ ("\n" : Str)) fun y hy => by
    obtain ⟨l, hl, e⟩ := List.mem_map.mp hy
    subst e
    rw [Str.length_append, len_nl]
    have := h2 l hl
    omega
  rw [List.length_map, show ("" : Str).length = 0 by decide +kernel] at z
  show (Txt.join "" ((linesT W B).map fun l : Str => l ++ ("\n" : Str))).length ≤ 5000
  omega
end Cw

set_option maxRecDepth 100000
set_option maxHeartbeats 2000000
set_option linter.all false
namespace Cw
open PySem PySem.Spec PyProof.Rows L2
def top (i : Nat) : Stmt := PySem.Challenge.pw_crossedwishes_k76_books_written_and_read.main.body.getD i (.Pass ⟨0, 0, 0, 0⟩)
section
variable {P : Program} {w : World} {K : PySem.W.Frag} {mg : Str → Option Value} {base : Heap} {f : Addr} {fd : FuncData}
noncomputable def d__law_pen : DS := sRet (dDic ((dC (.str "cells"), dCB (g1 list1) (aCons (dSl (dVar 0) none (some (dC (.int 63)))) (aNil))) :: (dC (.str "at"), dC (.int 0)) :: (dC (.str "left"), dC (.int 0)) :: []))
noncomputable def F__law_pen : Fn := body 1 d__law_pen
theorem z__law_pen : FnScope ["_law_script"] ["_law_script"] (defScope (top 38)) := ⟨rfl, rfl, rfl, by decide +kernel, rfl, by decide +kernel, by decide +kernel⟩
theorem g__law_pen (D : FunD K "_law_pen" "_law_pen" (defArgs (top 38)) (defBody (top 38)) (defScope (top 38)) [] [] f fd) (q_list : mg "list" = none) : GnOk P w K mg base 1 f fd ["_law_script"] F__law_pen := gn_of D z__law_pen fun cdv B outer st G E hg hr => by
  have R : Rdy (cxOf (L2.CX P w) P w K mg base ["_law_script"] "_law_pen" (defScope (top 38)) f cdv B outer st G E) (fun c d _ H => E c d H) 0 := ⟨takes_of rfl rfl rfl rfl, hg, hr⟩
  exact bv_one (sv_ret (ev_dic (pv_cons (ev_str) (evG_cty b_list q_list bt_list (av_cons (ev_sl (ev_var (i := 0)) ov_none (ov_some (ev_int))) (av_nil))) (pv_cons (ev_str) (ev_int) (pv_cons (ev_str) (ev_int) (pv_nil))))))
noncomputable def d__law_draw : DS := sSeq (sIf (asT (dOp gtV (dOp ixV (dVar 0) (dC (.str "left"))) (dC (.int 0)))) (sSeq (sAsg (dOp modV (dOp ixV (dVar 0) (dC (.str "left"))) (dVar 1)) (gNm 2)) (sSeq (sSub (dOp divV (dOp ixV (dVar 0) (dC (.str "left"))) (dVar 1)) (dVar 0) (dC (.str "left"))) (sRet (dVar 2)))) (sNext)) (sSeq (sAsg (dOp ixV (dVar 0) (dC (.str "at"))) (gNm 3)) (sSeq (sSub (dOp addV (dVar 3) (dC (.int 1))) (dVar 0) (dC (.str "at"))) (sSeq (sAsg (dOp addV (dOp mulV (dC (.int 1951)) (dVar 3)) (dC (.int 701))) (gNm 4)) (sSeq (sIf (asT (dOp neV' (dOp ixV (dVar 0) (dC (.str "cells"))) (dLst (aNil)))) (sAsg (dOp ixV (dOp ixV (dVar 0) (dC (.str "cells"))) (dOp modV (dVar 3) (dCB (g1 len1) (aCons (dOp ixV (dVar 0) (dC (.str "cells"))) (aNil))))) (gNm 4)) (sNext)) (sSeq (sIf (tAndD (asT (dOp ltV (dVar 3) (dCB (g1 len1) (aCons (dOp ixV (dVar 0) (dC (.str "cells"))) (aNil))))) (asT (dOp geV (dCB (g1 abs1) (aCons (dVar 4) (aNil))) (dOp powV (dC (.int 10)) (dC (.int 18)))))) (sSeq (sAsg (dOp addV (dOp mulV (dC (.int 2)) (dCB (g1 abs1) (aCons (dVar 4) (aNil)))) (dCB (g1 int1) (aCons (dOp ltV (dVar 4) (dC (.int 0))) (aNil)))) (gNm 5)) (sSeq (sSub (dOp divV (dVar 5) (dVar 1)) (dVar 0) (dC (.str "left"))) (sRet (dOp modV (dVar 5) (dVar 1))))) (sNext)) (sSeq (sAsg (dOp modV (dOp powV (dOp addV (dOp addV (dOp modV (dVar 4) (dC (.int 2147483563))) (dOp mulV (dC (.int 70997)) (dVar 3))) (dC (.int 79))) (dC (.int 5))) (dC (.int 2147483647))) (gNm 6)) (sSeq (sAsg (dOp modV (dOp powV (dOp addV (dOp mulV (dVar 6) (dOp addV (dVar 3) (dC (.int 65539)))) (dOp mulV (dOp mulV (dC (.int 85009)) (dVar 3)) (dVar 3))) (dC (.int 3))) (dC (.int 2147483399))) (gNm 7)) (sRet (dOp modV (dOp divV (dVar 7) (dC (.int 32))) (dVar 1))))))))))
noncomputable def F__law_draw : Fn := body 8 d__law_draw
theorem z__law_draw : FnScope ["_law_pen_here", "_law_many", "_law_found", "_law_at", "_law_cell", "_law_whole", "_law_one", "_law_two"] ["_law_pen_here", "_law_many"] (defScope (top 39)) := ⟨rfl, rfl, rfl, by decide +kernel, rfl, by decide +kernel, by decide +kernel⟩
theorem g__law_draw (D : FunD K "_law_draw" "_law_draw" (defArgs (top 39)) (defBody (top 39)) (defScope (top 39)) [] [] f fd) (q_len : mg "len" = none) (q_abs : mg "abs" = none) (q_int : mg "int" = none) : GnOk P w K mg base 1 f fd ["_law_pen_here", "_law_many"] F__law_draw := gn_of D z__law_draw fun cdv B outer st G E hg hr => by
  have R : Rdy (cxOf (L2.CX P w) P w K mg base ["_law_pen_here", "_law_many", "_law_found", "_law_at", "_law_cell", "_law_whole", "_law_one", "_law_two"] "_law_draw" (defScope (top 39)) f cdv B outer st G E) (fun c d _ H => E c d H) 0 := ⟨takes_of rfl rfl rfl rfl, hg, hr⟩
  exact bv_cons (sv_if (tv_c (c_gt R) (ev_ix R (ev_var (i := 0)) (ev_str)) (ev_int)) (bv_cons (sv_set (i := 2) (ev_mod (ev_ix R (ev_var (i := 0)) (ev_str)) (ev_var (i := 1))) z__law_draw.nd) (bv_cons (sv_sub R (ev_div (ev_ix R (ev_var (i := 0)) (ev_str)) (ev_var (i := 1))) (ev_var (i := 0)) (ev_str)) (bv_one (sv_ret (ev_var (i := 2)))))) (bv_nil)) (bv_cons (sv_set (i := 3) (ev_ix R (ev_var (i := 0)) (ev_str)) z__law_draw.nd) (bv_cons (sv_sub R (ev_add (ev_var (i := 3)) (ev_int)) (ev_var (i := 0)) (ev_str)) (bv_cons (sv_set (i := 4) (ev_add (ev_mul (ev_int) (ev_var (i := 3))) (ev_int)) z__law_draw.nd) (bv_cons (sv_if (tv_c (c_ne R) (ev_ix R (ev_var (i := 0)) (ev_str)) (ev_lst (av_nil))) (bv_one (sv_set (i := 4) (ev_ix R (ev_ix R (ev_var (i := 0)) (ev_str)) (ev_mod (ev_var (i := 3)) (evG_cb b_len q_len bf_len (av_cons (ev_ix R (ev_var (i := 0)) (ev_str)) (av_nil))))) z__law_draw.nd)) (bv_nil)) (bv_cons (sv_if ((wv_and (tv_c (c_lt R) (ev_var (i := 3)) (evG_cb b_len q_len bf_len (av_cons (ev_ix R (ev_var (i := 0)) (ev_str)) (av_nil)))) (wv_and1 (tv_c (c_ge R) (evG_cb b_abs q_abs bf_abs (av_cons (ev_var (i := 4)) (av_nil))) (ev_pow (ev_int) (ev_int))))).tv) (bv_cons (sv_set (i := 5) (ev_add (ev_mul (ev_int) (evG_cb b_abs q_abs bf_abs (av_cons (ev_var (i := 4)) (av_nil)))) (evG_cty b_int q_int bt_int (av_cons (ev_c (c_lt R) (ev_var (i := 4)) (ev_int)) (av_nil)))) z__law_draw.nd) (bv_cons (sv_sub R (ev_div (ev_var (i := 5)) (ev_var (i := 1))) (ev_var (i := 0)) (ev_str)) (bv_one (sv_ret (ev_mod (ev_var (i := 5)) (ev_var (i := 1))))))) (bv_nil)) (bv_cons (sv_set (i := 6) (ev_mod (ev_pow (ev_add (ev_add (ev_mod (ev_var (i := 4)) (ev_int)) (ev_mul (ev_int) (ev_var (i := 3)))) (ev_int)) (ev_int)) (ev_int)) z__law_draw.nd) (bv_cons (sv_set (i := 7) (ev_mod (ev_pow (ev_add (ev_mul (ev_var (i := 6)) (ev_add (ev_var (i := 3)) (ev_int))) (ev_mul (ev_mul (ev_int) (ev_var (i := 3))) (ev_var (i := 3)))) (ev_int)) (ev_int)) z__law_draw.nd) (bv_one (sv_ret (ev_mod (ev_div (ev_var (i := 7)) (ev_int)) (ev_var (i := 1))))))))))))
noncomputable def d__law_kinds : DS := sSeq (sAsg (dLstO (aCons (dC (.str "a")) (aCons (dC (.str "aa")) (aCons (dC (.str "b")) (aCons (dC (.str "ba")) (aCons (dC (.str "c")) (aCons (dC (.str "k")) (aCons (dC (.str "l")) (aCons (dC (.str "o")) (aCons (dC (.str "zz")) (aCons (dC (.str "zzzzzzzz")) (aCons (dC (.str "m")) (aCons (dC (.str "ma")) (aCons (dC (.str "bounds")) (aCons (dC (.str "wishes")) (aCons (dC (.str "must")) (aCons (dC (.str "if")) (aNil)))))))))))))))))) (gNm 2)) (sSeq (sAsg (dOp addVO (dVar 2) (dLst (aCons (dC (.str "wish")) (aCons (dC (.str "open")) (aCons (dC (.str "to")) (aNil)))))) (gNm 2)) (sRet (dLc (iRg1 (aCons (dVar 1) (aNil))) [3] (gNm 3) (tYesD) (dMt "list" popV (dVar 2) (aCons (dCall F__law_draw 2 [] (aCons (dVar 0) (aCons (dCB (g1 len1) (aCons (dVar 2) (aNil))) (aNil)))) (aNil))))))
noncomputable def F__law_kinds : Fn := cutF (body 4 d__law_kinds)
theorem z__law_kinds : FnScope ["_law_pen_here", "_law_many", "_law_some", "_law_k"] ["_law_pen_here", "_law_many"] (defScope (top 40)) := ⟨rfl, rfl, rfl, by decide +kernel, rfl, by decide +kernel, by decide +kernel⟩
theorem g__law_kinds (D : FunD K "_law_kinds" "_law_kinds" (defArgs (top 40)) (defBody (top 40)) (defScope (top 40)) [] [] f fd) (q_range : mg "range" = none) (q_len : mg "len" = none) (c__law_draw : Cal P w K mg base "_law_draw" 1 ["_law_pen_here", "_law_many"] [] F__law_draw) : GnOk P w K mg base 2 f fd ["_law_pen_here", "_law_many"] F__law_kinds := GnOk.cut <| gn_of D z__law_kinds fun cdv B outer st G E hg hr => by
  have R : Rdy (cxOf (L2.CX P w) P w K mg base ["_law_pen_here", "_law_many", "_law_some", "_law_k"] "_law_kinds" (defScope (top 40)) f cdv B outer st G E) (fun c d _ H => E c d H) 1 := ⟨takes_of rfl rfl rfl rfl, hg, hr⟩
  exact bv_cons (sv_set (i := 2) (ev_lstO (av_cons (ev_str) (av_cons (ev_str) (av_cons (ev_str) (av_cons (ev_str) (av_cons (ev_str) (av_cons (ev_str) (av_cons (ev_str) (av_cons (ev_str) (av_cons (ev_str) (av_cons (ev_str) (av_cons (ev_str) (av_cons (ev_str) (av_cons (ev_str) (av_cons (ev_str) (av_cons (ev_str) (av_cons (ev_str) (av_nil)))))))))))))))))) z__law_kinds.nd) (bv_cons (sv_set (i := 2) (ev_addO (ev_var (i := 2)) (ev_lst (av_cons (ev_str) (av_cons (ev_str) (av_cons (ev_str) (av_nil)))))) z__law_kinds.nd) (bv_one (sv_ret (ev_lc (own := [("_law_k", 3)]) rfl z__law_kinds.nd (iv_rng1 rfl q_range (av_cons (ev_var (i := 1)) (av_nil))) (blkOk_by (N := ["_law_pen_here", "_law_many", "_law_some", "_law_k"]) (sc := defScope (top 40)) (by decide +kernel)) (fun s H C cl fp => gv_name (i := 3) z__law_kinds.nd) (fun s H C cl fp => tsv_nil) (fun s H C cl fp => ev_pop (ev_var (i := 2)) (av_cons (ev_cal c__law_draw (Rdy.blk R) (av_cons (ev_var (i := 0)) (av_cons (evG_cb b_len q_len bf_len (av_cons (ev_var (i := 2)) (av_nil))) (av_nil)))) (av_nil)))))))
noncomputable def d__law_worths : DS := sSeq (sAsg (dLstO (aCons (dC (.int 0)) (aCons (dC (.int 1)) (aCons (dC (.int 2)) (aCons (dC (.int 3)) (aCons (dC (.int 7)) (aCons (dC (.int 10)) (aCons (dC (.int 9999)) (aCons (dC (.int 5000)) (aNil)))))))))) (gNm 2)) (sSeq (sAsg (dLstO (aNil)) (gNm 3)) (sSeq (sFor (iRg1 (aCons (dOp addV (dC (.int 1)) (dCall F__law_draw 2 [] (aCons (dVar 0) (aCons (dVar 1) (aNil))))) (aNil))) (gNm 4) (sExpr (dMt "list" appendV (dVar 3) (aCons (dMt "list" popV (dVar 2) (aCons (dCall F__law_draw 2 [] (aCons (dVar 0) (aCons (dOp ixV (dLst (aCons (dCB (g1 len1) (aCons (dVar 2) (aNil))) (aCons (dCB (g2 min2) (aCons (dC (.int 4)) (aCons (dCB (g1 len1) (aCons (dVar 2) (aNil))) (aNil)))) (aNil)))) (dCall F__law_draw 2 [] (aCons (dVar 0) (aCons (dC (.int 2)) (aNil))))) (aNil)))) (aNil))) (aNil))))) (sRet (dCB (g1 tuple1) (aCons (dVar 3) (aNil))))))
noncomputable def F__law_worths : Fn := cutF (body 5 d__law_worths)
theorem z__law_worths : FnScope ["_law_pen_here", "_law_most", "_law_some", "_law_found", "_law_k"] ["_law_pen_here", "_law_most"] (defScope (top 41)) := ⟨rfl, rfl, rfl, by decide +kernel, rfl, by decide +kernel, by decide +kernel⟩
theorem g__law_worths (D : FunD K "_law_worths" "_law_worths" (defArgs (top 41)) (defBody (top 41)) (defScope (top 41)) [] [] f fd) (c__law_draw : Cal P w K mg base "_law_draw" 1 ["_law_pen_here", "_law_many"] [] F__law_draw) (q_range : mg "range" = none) (q_len : mg "len" = none) (q_min : mg "min" = none) (q_tuple : mg "tuple" = none) : GnOk P w K mg base 2 f fd ["_law_pen_here", "_law_most"] F__law_worths := GnOk.cut <| gn_of D z__law_worths fun cdv B outer st G E hg hr => by
  have R : Rdy (cxOf (L2.CX P w) P w K mg base ["_law_pen_here", "_law_most", "_law_some", "_law_found", "_law_k"] "_law_worths" (defScope (top 41)) f cdv B outer st G E) (fun c d _ H => E c d H) 1 := ⟨takes_of rfl rfl rfl rfl, hg, hr⟩
  exact bv_cons (sv_set (i := 2) (ev_lstO (av_cons (ev_int) (av_cons (ev_int) (av_cons (ev_int) (av_cons (ev_int) (av_cons (ev_int) (av_cons (ev_int) (av_cons (ev_int) (av_cons (ev_int) (av_nil)))))))))) z__law_worths.nd) (bv_cons (sv_set (i := 3) (ev_lstO (av_nil)) z__law_worths.nd) (bv_cons (sv_for (passes_of rfl) rfl (iv_rng1 rfl q_range (av_cons (ev_add (ev_int) (ev_cal c__law_draw R (av_cons (ev_var (i := 0)) (av_cons (ev_var (i := 1)) (av_nil))))) (av_nil))) (gv_name (i := 4) z__law_worths.nd) (bv_one (sv_expr (ev_append (ev_var (i := 3)) (av_cons (ev_pop (ev_var (i := 2)) (av_cons (ev_cal c__law_draw R (av_cons (ev_var (i := 0)) (av_cons (ev_ix R (ev_lst (av_cons (evG_cb b_len q_len bf_len (av_cons (ev_var (i := 2)) (av_nil))) (av_cons (evG_cb b_min2 q_min bf_min (av_cons (ev_int) (av_cons (evG_cb b_len q_len bf_len (av_cons (ev_var (i := 2)) (av_nil))) (av_nil)))) (av_nil)))) (ev_cal c__law_draw R (av_cons (ev_var (i := 0)) (av_cons (ev_int) (av_nil))))) (av_nil)))) (av_nil))) (av_nil)))))) (bv_one (sv_ret (evG_cty b_tuple q_tuple bt_tuple (av_cons (ev_var (i := 3)) (av_nil)))))))
noncomputable def d__law_wishes : DS := sSeq (sAsg (dCB (g1 list1O) (aCons (dVar 1) (aNil))) (gNm 3)) (sSeq (sAsg (dLstO (aNil)) (gNm 4)) (sSeq (sWhile (asT (dOp neV' (dVar 3) (dLst (aNil)))) (sSeq (sAsg (dMt "list" popV (dVar 3) (aCons (dCall F__law_draw 2 [] (aCons (dVar 0) (aCons (dCB (g1 len1) (aCons (dVar 3) (aNil))) (aNil)))) (aNil))) (gNm 5)) (sSeq (sAsg (dC .non) (gNm 6)) (sSeq (sIf (tAndD (asT (dOp neV' (dVar 4) (dLst (aNil)))) (asT (dOp eqV' (dCall F__law_draw 2 [] (aCons (dVar 0) (aCons (dC (.int 3)) (aNil)))) (dC (.int 0))))) (sSeq (sAsg (dOp ixV (dVar 4) (dCall F__law_draw 2 [] (aCons (dVar 0) (aCons (dCB (g1 len1) (aCons (dVar 4) (aNil))) (aNil))))) (gNm 7)) (sAsg (dTup (aCons (dOp ixV (dVar 7) (dC (.int 0))) (aCons (dOp ixV (dOp addV (dOp ixV (dVar 7) (dC (.int 1))) (dTup (aCons (dC (.int 4)) (aNil)))) (dCall F__law_draw 2 [] (aCons (dVar 0) (aCons (dOp addV (dCB (g1 len1) (aCons (dOp ixV (dVar 7) (dC (.int 1))) (aNil))) (dC (.int 1))) (aNil))))) (aNil)))) (gNm 6))) (sNext)) (sExpr (dMt "list" appendV (dVar 4) (aCons (dTup (aCons (dVar 5) (aCons (dCall F__law_worths 2 [] (aCons (dVar 0) (aCons (dVar 2) (aNil)))) (aCons (dOp eqV' (dCall F__law_draw 2 [] (aCons (dVar 0) (aCons (dC (.int 3)) (aNil)))) (dC (.int 0))) (aCons (dVar 6) (aNil)))))) (aNil)))))))) (sRet (dCB (g1 tuple1) (aCons (dVar 4) (aNil))))))
noncomputable def F__law_wishes : Fn := cutF (body 8 d__law_wishes)
theorem z__law_wishes : FnScope ["_law_pen_here", "_law_kinds_here", "_law_most", "_law_left", "_law_found", "_law_kind", "_law_needs", "_law_ahead"] ["_law_pen_here", "_law_kinds_here", "_law_most"] (defScope (top 42)) := ⟨rfl, rfl, rfl, by decide +kernel, rfl, by decide +kernel, by decide +kernel⟩
theorem g__law_wishes (D : FunD K "_law_wishes" "_law_wishes" (defArgs (top 42)) (defBody (top 42)) (defScope (top 42)) [] [] f fd) (q_list : mg "list" = none) (q_len : mg "len" = none) (c__law_draw : Cal P w K mg base "_law_draw" 1 ["_law_pen_here", "_law_many"] [] F__law_draw) (c__law_worths : Cal P w K mg base "_law_worths" 2 ["_law_pen_here", "_law_most"] [] F__law_worths) (q_tuple : mg "tuple" = none) : GnOk P w K mg base 3 f fd ["_law_pen_here", "_law_kinds_here", "_law_most"] F__law_wishes := GnOk.cut <| gn_of D z__law_wishes fun cdv B outer st G E hg hr => by
  have R : Rdy (cxOf (L2.CX P w) P w K mg base ["_law_pen_here", "_law_kinds_here", "_law_most", "_law_left", "_law_found", "_law_kind", "_law_needs", "_law_ahead"] "_law_wishes" (defScope (top 42)) f cdv B outer st G E) (fun c d _ H => E c d H) 2 := ⟨takes_of rfl rfl rfl rfl, hg, hr⟩
  exact bv_cons (sv_set (i := 3) (evG_cty b_listO q_list bt_list (av_cons (ev_var (i := 1)) (av_nil))) z__law_wishes.nd) (bv_cons (sv_set (i := 4) (ev_lstO (av_nil)) z__law_wishes.nd) (bv_cons (sv_while (passes_of rfl) (tv_c (c_ne R) (ev_var (i := 3)) (ev_lst (av_nil))) (bv_cons (sv_set (i := 5) (ev_pop (ev_var (i := 3)) (av_cons (ev_cal c__law_draw R (av_cons (ev_var (i := 0)) (av_cons (evG_cb b_len q_len bf_len (av_cons (ev_var (i := 3)) (av_nil))) (av_nil)))) (av_nil))) z__law_wishes.nd) (bv_cons (sv_set (i := 6) (ev_non) z__law_wishes.nd) (bv_cons (sv_if ((wv_and (tv_c (c_ne R) (ev_var (i := 4)) (ev_lst (av_nil))) (wv_and1 (tv_c (c_eq R) (ev_cal c__law_draw R (av_cons (ev_var (i := 0)) (av_cons (ev_int) (av_nil)))) (ev_int)))).tv) (bv_cons (sv_set (i := 7) (ev_ix R (ev_var (i := 4)) (ev_cal c__law_draw R (av_cons (ev_var (i := 0)) (av_cons (evG_cb b_len q_len bf_len (av_cons (ev_var (i := 4)) (av_nil))) (av_nil))))) z__law_wishes.nd) (bv_one (sv_set (i := 6) (ev_tup (av_cons (ev_ix R (ev_var (i := 7)) (ev_int)) (av_cons (ev_ix R (ev_add (ev_ix R (ev_var (i := 7)) (ev_int)) (ev_tup (av_cons (ev_int) (av_nil)))) (ev_cal c__law_draw R (av_cons (ev_var (i := 0)) (av_cons (ev_add (evG_cb b_len q_len bf_len (av_cons (ev_ix R (ev_var (i := 7)) (ev_int)) (av_nil))) (ev_int)) (av_nil))))) (av_nil)))) z__law_wishes.nd))) (bv_nil)) (bv_one (sv_expr (ev_append (ev_var (i := 4)) (av_cons (ev_tup (av_cons (ev_var (i := 5)) (av_cons (ev_cal c__law_worths R (av_cons (ev_var (i := 0)) (av_cons (ev_var (i := 2)) (av_nil)))) (av_cons (ev_c (c_eq R) (ev_cal c__law_draw R (av_cons (ev_var (i := 0)) (av_cons (ev_int) (av_nil)))) (ev_int)) (av_cons (ev_var (i := 6)) (av_nil)))))) (av_nil))))))))) (bv_one (sv_ret (evG_cty b_tuple q_tuple bt_tuple (av_cons (ev_var (i := 4)) (av_nil)))))))
noncomputable def d__law_bounds : DS := sSeq (sAsg (dLstO (aNil)) (gNm 3)) (sSeq (sFor (iSeq (dVar 1)) (gNm 4) (sIf (asT (dOp gtV (dCall F__law_draw 2 [] (aCons (dVar 0) (aCons (dC (.int 5)) (aNil)))) (dC (.int 0)))) (sExpr (dMt "list" appendV (dVar 3) (aCons (dTup (aCons (dVar 4) (aCons (dCall F__law_worths 2 [] (aCons (dVar 0) (aCons (dVar 2) (aNil)))) (aNil)))) (aNil)))) (sNext))) (sSeq (sIf (asT (dOp eqV' (dCall F__law_draw 2 [] (aCons (dVar 0) (aCons (dC (.int 4)) (aNil)))) (dC (.int 0)))) (sExpr (dMt "list" appendV (dVar 3) (aCons (dTup (aCons (dC (.str "qq")) (aCons (dTup (aCons (dC (.int 1)) (aNil))) (aNil)))) (aNil)))) (sNext)) (sRet (dCB (g1 tuple1) (aCons (dVar 3) (aNil))))))
noncomputable def F__law_bounds : Fn := cutF (body 5 d__law_bounds)
theorem z__law_bounds : FnScope ["_law_pen_here", "_law_kinds_here", "_law_most", "_law_found", "_law_kind"] ["_law_pen_here", "_law_kinds_here", "_law_most"] (defScope (top 43)) := ⟨rfl, rfl, rfl, by decide +kernel, rfl, by decide +kernel, by decide +kernel⟩
theorem g__law_bounds (D : FunD K "_law_bounds" "_law_bounds" (defArgs (top 43)) (defBody (top 43)) (defScope (top 43)) [] [] f fd) (c__law_draw : Cal P w K mg base "_law_draw" 1 ["_law_pen_here", "_law_many"] [] F__law_draw) (c__law_worths : Cal P w K mg base "_law_worths" 2 ["_law_pen_here", "_law_most"] [] F__law_worths) (q_tuple : mg "tuple" = none) : GnOk P w K mg base 3 f fd ["_law_pen_here", "_law_kinds_here", "_law_most"] F__law_bounds := GnOk.cut <| gn_of D z__law_bounds fun cdv B outer st G E hg hr => by
  have R : Rdy (cxOf (L2.CX P w) P w K mg base ["_law_pen_here", "_law_kinds_here", "_law_most", "_law_found", "_law_kind"] "_law_bounds" (defScope (top 43)) f cdv B outer st G E) (fun c d _ H => E c d H) 2 := ⟨takes_of rfl rfl rfl rfl, hg, hr⟩
  exact bv_cons (sv_set (i := 3) (ev_lstO (av_nil)) z__law_bounds.nd) (bv_cons (sv_for (passes_of rfl) rfl (iv_seq (ev_var (i := 1))) (gv_name (i := 4) z__law_bounds.nd) (bv_one (sv_if (tv_c (c_gt R) (ev_cal c__law_draw R (av_cons (ev_var (i := 0)) (av_cons (ev_int) (av_nil)))) (ev_int)) (bv_one (sv_expr (ev_append (ev_var (i := 3)) (av_cons (ev_tup (av_cons (ev_var (i := 4)) (av_cons (ev_cal c__law_worths R (av_cons (ev_var (i := 0)) (av_cons (ev_var (i := 2)) (av_nil)))) (av_nil)))) (av_nil))))) (bv_nil)))) (bv_cons (sv_if (tv_c (c_eq R) (ev_cal c__law_draw R (av_cons (ev_var (i := 0)) (av_cons (ev_int) (av_nil)))) (ev_int)) (bv_one (sv_expr (ev_append (ev_var (i := 3)) (av_cons (ev_tup (av_cons (ev_str) (av_cons (ev_tup (av_cons (ev_int) (av_nil))) (av_nil)))) (av_nil))))) (bv_nil)) (bv_one (sv_ret (evG_cty b_tuple q_tuple bt_tuple (av_cons (ev_var (i := 3)) (av_nil)))))))
noncomputable def d__law_books : DS := sSeq (sAsg (dCall F__law_kinds 2 [] (aCons (dVar 0) (aCons (dCall F__law_draw 2 [] (aCons (dVar 0) (aCons (dOp addV (dVar 1) (dC (.int 1))) (aNil)))) (aNil)))) (gNm 3)) (sSeq (sAsg (dCall F__law_kinds 2 [] (aCons (dVar 0) (aCons (dCall F__law_draw 2 [] (aCons (dVar 0) (aCons (dOp addV (dVar 1) (dC (.int 1))) (aNil)))) (aNil)))) (gNm 4)) (sSeq (sAsg (dTup (aCons (dCall F__law_wishes 3 [] (aCons (dVar 0) (aCons (dVar 3) (aCons (dVar 2) (aNil))))) (aCons (dCall F__law_bounds 3 [] (aCons (dVar 0) (aCons (dVar 4) (aCons (dVar 2) (aNil))))) (aNil)))) (gNm 5)) (sRet (dTup (aCons (dVar 5) (aCons (dTup (aCons (dCall F__law_wishes 3 [] (aCons (dVar 0) (aCons (dVar 4) (aCons (dVar 2) (aNil))))) (aCons (dCall F__law_bounds 3 [] (aCons (dVar 0) (aCons (dVar 3) (aCons (dVar 2) (aNil))))) (aNil)))) (aNil)))))))
noncomputable def F__law_books : Fn := body 6 d__law_books
theorem z__law_books : FnScope ["_law_pen_here", "_law_many", "_law_most", "_law_mine", "_law_yours", "_law_one"] ["_law_pen_here", "_law_many", "_law_most"] (defScope (top 44)) := ⟨rfl, rfl, rfl, by decide +kernel, rfl, by decide +kernel, by decide +kernel⟩
theorem g__law_books (D : FunD K "_law_books" "_law_books" (defArgs (top 44)) (defBody (top 44)) (defScope (top 44)) [] [] f fd) (c__law_draw : Cal P w K mg base "_law_draw" 1 ["_law_pen_here", "_law_many"] [] F__law_draw) (c__law_kinds : Cal P w K mg base "_law_kinds" 2 ["_law_pen_here", "_law_many"] [] F__law_kinds) (c__law_bounds : Cal P w K mg base "_law_bounds" 3 ["_law_pen_here", "_law_kinds_here", "_law_most"] [] F__law_bounds) (c__law_wishes : Cal P w K mg base "_law_wishes" 3 ["_law_pen_here", "_law_kinds_here", "_law_most"] [] F__law_wishes) : GnOk P w K mg base 4 f fd ["_law_pen_here", "_law_many", "_law_most"] F__law_books := gn_of D z__law_books fun cdv B outer st G E hg hr => by
  have R : Rdy (cxOf (L2.CX P w) P w K mg base ["_law_pen_here", "_law_many", "_law_most", "_law_mine", "_law_yours", "_law_one"] "_law_books" (defScope (top 44)) f cdv B outer st G E) (fun c d _ H => E c d H) 3 := ⟨takes_of rfl rfl rfl rfl, hg, hr⟩
  exact bv_cons (sv_set (i := 3) (ev_cal c__law_kinds R (av_cons (ev_var (i := 0)) (av_cons (ev_cal c__law_draw R (av_cons (ev_var (i := 0)) (av_cons (ev_add (ev_var (i := 1)) (ev_int)) (av_nil)))) (av_nil)))) z__law_books.nd) (bv_cons (sv_set (i := 4) (ev_cal c__law_kinds R (av_cons (ev_var (i := 0)) (av_cons (ev_cal c__law_draw R (av_cons (ev_var (i := 0)) (av_cons (ev_add (ev_var (i := 1)) (ev_int)) (av_nil)))) (av_nil)))) z__law_books.nd) (bv_cons (sv_set (i := 5) (ev_tup (av_cons (ev_cal c__law_wishes R (av_cons (ev_var (i := 0)) (av_cons (ev_var (i := 3)) (av_cons (ev_var (i := 2)) (av_nil))))) (av_cons (ev_cal c__law_bounds R (av_cons (ev_var (i := 0)) (av_cons (ev_var (i := 4)) (av_cons (ev_var (i := 2)) (av_nil))))) (av_nil)))) z__law_books.nd) (bv_one (sv_ret (ev_tup (av_cons (ev_var (i := 5)) (av_cons (ev_tup (av_cons (ev_cal c__law_wishes R (av_cons (ev_var (i := 0)) (av_cons (ev_var (i := 4)) (av_cons (ev_var (i := 2)) (av_nil))))) (av_cons (ev_cal c__law_bounds R (av_cons (ev_var (i := 0)) (av_cons (ev_var (i := 3)) (av_cons (ev_var (i := 2)) (av_nil))))) (av_nil)))) (av_nil))))))))
noncomputable def d__law_great : DS := sSeq (sAsg (dCall F__law_kinds 2 [] (aCons (dVar 0) (aCons (dC (.int 6)) (aNil)))) (gNm 1)) (sSeq (sAsg (dLst (aCons (dC (.int 0)) (aCons (dC (.int 9999)) (aCons (dC (.int 1)) (aCons (dC (.int 5000)) (aCons (dC (.int 10)) (aCons (dC (.int 7)) (aNil)))))))) (gNm 2)) (sSeq (sAsg (dLstO (aNil)) (gNm 3)) (sSeq (sFor (iNumD0 (aCons (dVar 1) (aNil))) (gSeq 2 (gsCons (gNm 4) (gsCons (gNm 5) (gsNil)))) (sSeq (sAsg (dCall F__law_draw 2 [] (aCons (dVar 0) (aCons (dC (.int 6)) (aNil)))) (gNm 6)) (sSeq (sAsg (dC .non) (gNm 7)) (sSeq (sIf (tAndD (asT (dOp gtV (dVar 4) (dC (.int 0)))) (asT (dOp eqV' (dCall F__law_draw 2 [] (aCons (dVar 0) (aCons (dC (.int 2)) (aNil)))) (dC (.int 0))))) (sAsg (dTup (aCons (dOp ixV (dVar 1) (dCall F__law_draw 2 [] (aCons (dVar 0) (aCons (dVar 4) (aNil))))) (aCons (dOp ixV (dVar 2) (dCall F__law_draw 2 [] (aCons (dVar 0) (aCons (dC (.int 6)) (aNil))))) (aNil)))) (gNm 7)) (sNext)) (sExpr (dMt "list" appendV (dVar 3) (aCons (dTup (aCons (dVar 5) (aCons (dCB (g1 tuple1) (aCons (dOp addV (dSl (dVar 2) (some (dVar 6)) none) (dSl (dVar 2) none (some (dVar 6)))) (aNil))) (aCons (dOp eqV' (dCall F__law_draw 2 [] (aCons (dVar 0) (aCons (dC (.int 2)) (aNil)))) (dC (.int 0))) (aCons (dVar 7) (aNil)))))) (aNil)))))))) (sRet (dCB (g1 tuple1) (aCons (dVar 3) (aNil)))))))
noncomputable def F__law_great : Fn := cutF (body 8 d__law_great)
theorem z__law_great : FnScope ["_law_pen_here", "_law_kinds_here", "_law_worths_here", "_law_found", "_law_k", "_law_kind", "_law_turn", "_law_needs"] ["_law_pen_here"] (defScope (top 45)) := ⟨rfl, rfl, rfl, by decide +kernel, rfl, by decide +kernel, by decide +kernel⟩
theorem g__law_great (D : FunD K "_law_great" "_law_great" (defArgs (top 45)) (defBody (top 45)) (defScope (top 45)) [] [] f fd) (c__law_kinds : Cal P w K mg base "_law_kinds" 2 ["_law_pen_here", "_law_many"] [] F__law_kinds) (q_enumerate : mg "enumerate" = none) (c__law_draw : Cal P w K mg base "_law_draw" 1 ["_law_pen_here", "_law_many"] [] F__law_draw) (q_tuple : mg "tuple" = none) : GnOk P w K mg base 3 f fd ["_law_pen_here"] F__law_great := GnOk.cut <| gn_of D z__law_great fun cdv B outer st G E hg hr => by
  have R : Rdy (cxOf (L2.CX P w) P w K mg base ["_law_pen_here", "_law_kinds_here", "_law_worths_here", "_law_found", "_law_k", "_law_kind", "_law_turn", "_law_needs"] "_law_great" (defScope (top 45)) f cdv B outer st G E) (fun c d _ H => E c d H) 2 := ⟨takes_of rfl rfl rfl rfl, hg, hr⟩
  exact bv_cons (sv_set (i := 1) (ev_cal c__law_kinds R (av_cons (ev_var (i := 0)) (av_cons (ev_int) (av_nil)))) z__law_great.nd) (bv_cons (sv_set (i := 2) (ev_lst (av_cons (ev_int) (av_cons (ev_int) (av_cons (ev_int) (av_cons (ev_int) (av_cons (ev_int) (av_cons (ev_int) (av_nil)))))))) z__law_great.nd) (bv_cons (sv_set (i := 3) (ev_lstO (av_nil)) z__law_great.nd) (bv_cons (sv_for (passes_of rfl) rfl (iv_num0 rfl q_enumerate (av_cons (ev_var (i := 1)) (av_nil))) (gv_seq (n := 2) rfl (gsv_cons (gv_name (i := 4) z__law_great.nd) (gsv_cons (gv_name (i := 5) z__law_great.nd) (gsv_nil)))) (bv_cons (sv_set (i := 6) (ev_cal c__law_draw R (av_cons (ev_var (i := 0)) (av_cons (ev_int) (av_nil)))) z__law_great.nd) (bv_cons (sv_set (i := 7) (ev_non) z__law_great.nd) (bv_cons (sv_if ((wv_and (tv_c (c_gt R) (ev_var (i := 4)) (ev_int)) (wv_and1 (tv_c (c_eq R) (ev_cal c__law_draw R (av_cons (ev_var (i := 0)) (av_cons (ev_int) (av_nil)))) (ev_int)))).tv) (bv_one (sv_set (i := 7) (ev_tup (av_cons (ev_ix R (ev_var (i := 1)) (ev_cal c__law_draw R (av_cons (ev_var (i := 0)) (av_cons (ev_var (i := 4)) (av_nil))))) (av_cons (ev_ix R (ev_var (i := 2)) (ev_cal c__law_draw R (av_cons (ev_var (i := 0)) (av_cons (ev_int) (av_nil))))) (av_nil)))) z__law_great.nd)) (bv_nil)) (bv_one (sv_expr (ev_append (ev_var (i := 3)) (av_cons (ev_tup (av_cons (ev_var (i := 5)) (av_cons (evG_cty b_tuple q_tuple bt_tuple (av_cons (ev_add (ev_sl (ev_var (i := 2)) (ov_some (ev_var (i := 6))) ov_none) (ev_sl (ev_var (i := 2)) ov_none (ov_some (ev_var (i := 6))))) (av_nil))) (av_cons (ev_c (c_eq R) (ev_cal c__law_draw R (av_cons (ev_var (i := 0)) (av_cons (ev_int) (av_nil)))) (ev_int)) (av_cons (ev_var (i := 7)) (av_nil)))))) (av_nil))))))))) (bv_one (sv_ret (evG_cty b_tuple q_tuple bt_tuple (av_cons (ev_var (i := 3)) (av_nil))))))))
noncomputable def d__law_any_book : DS := sSeq (sAsg (dOp ixV (dCall F__law_books 3 [] (aCons (dVar 0) (aCons (dC (.int 4)) (aCons (dC (.int 4)) (aNil))))) (dC (.int 0))) (gNm 1)) (sSeq (sIf (asT (dOp gtV (dCall F__law_draw 2 [] (aCons (dVar 0) (aCons (dC (.int 8)) (aNil)))) (dC (.int 0)))) (sRet (dVar 1)) (sNext)) (sRet (dTup (aCons (dCall F__law_great 1 [] (aCons (dVar 0) (aNil))) (aCons (dCB (g1 tuple1) (aCons (dLc (iSeq (dCall F__law_kinds 2 [] (aCons (dVar 0) (aCons (dC (.int 8)) (aNil))))) [2] (gNm 2) (tYesD) (dTup (aCons (dVar 2) (aCons (dTup (aCons (dC (.int 9999)) (aCons (dC (.int 0)) (aCons (dC (.int 10)) (aCons (dC (.int 2)) (aCons (dC (.int 3)) (aCons (dC (.int 4)) (aNil)))))))) (aNil))))) (aNil))) (aNil))))))
noncomputable def F__law_any_book : Fn := body 3 d__law_any_book
theorem z__law_any_book : FnScope ["_law_pen_here", "_law_book", "_law_kind"] ["_law_pen_here"] (defScope (top 46)) := ⟨rfl, rfl, rfl, by decide +kernel, rfl, by decide +kernel, by decide +kernel⟩
theorem g__law_any_book (D : FunD K "_law_any_book" "_law_any_book" (defArgs (top 46)) (defBody (top 46)) (defScope (top 46)) [] [] f fd) (c__law_books : Cal P w K mg base "_law_books" 4 ["_law_pen_here", "_law_many", "_law_most"] [] F__law_books) (c__law_draw : Cal P w K mg base "_law_draw" 1 ["_law_pen_here", "_law_many"] [] F__law_draw) (c__law_kinds : Cal P w K mg base "_law_kinds" 2 ["_law_pen_here", "_law_many"] [] F__law_kinds) (q_tuple : mg "tuple" = none) (c__law_great : Cal P w K mg base "_law_great" 3 ["_law_pen_here"] [] F__law_great) : GnOk P w K mg base 5 f fd ["_law_pen_here"] F__law_any_book := gn_of D z__law_any_book fun cdv B outer st G E hg hr => by
  have R : Rdy (cxOf (L2.CX P w) P w K mg base ["_law_pen_here", "_law_book", "_law_kind"] "_law_any_book" (defScope (top 46)) f cdv B outer st G E) (fun c d _ H => E c d H) 4 := ⟨takes_of rfl rfl rfl rfl, hg, hr⟩
  exact bv_cons (sv_set (i := 1) (ev_ix R (ev_cal c__law_books R (av_cons (ev_var (i := 0)) (av_cons (ev_int) (av_cons (ev_int) (av_nil))))) (ev_int)) z__law_any_book.nd) (bv_cons (sv_if (tv_c (c_gt R) (ev_cal c__law_draw R (av_cons (ev_var (i := 0)) (av_cons (ev_int) (av_nil)))) (ev_int)) (bv_one (sv_ret (ev_var (i := 1)))) (bv_nil)) (bv_one (sv_ret (ev_tup (av_cons (ev_cal c__law_great R (av_cons (ev_var (i := 0)) (av_nil))) (av_cons (evG_cty b_tuple q_tuple bt_tuple (av_cons (ev_lc (own := [("_law_kind", 2)]) rfl z__law_any_book.nd (iv_seq (ev_cal c__law_kinds R (av_cons (ev_var (i := 0)) (av_cons (ev_int) (av_nil))))) (blkOk_by (N := ["_law_pen_here", "_law_book", "_law_kind"]) (sc := defScope (top 46)) (by decide +kernel)) (fun s H C cl fp => gv_name (i := 2) z__law_any_book.nd) (fun s H C cl fp => tsv_nil) (fun s H C cl fp => ev_tup (av_cons (ev_var (i := 2)) (av_cons (ev_tup (av_cons (ev_int) (av_cons (ev_int) (av_cons (ev_int) (av_cons (ev_int) (av_cons (ev_int) (av_cons (ev_int) (av_nil)))))))) (av_nil))))) (av_nil))) (av_nil)))))))
noncomputable def d__law_with_ends : DS := sRet (dMt "str" joinV (dC (.str "")) (aCons (dLc (iSeq (dVar 0)) [1] (gNm 1) (tYesD) (dOp addV (dVar 1) (dC (.str "\n")))) (aNil)))
noncomputable def F__law_with_ends : Fn := body 2 d__law_with_ends
theorem z__law_with_ends : FnScope ["_law_lines", "_law_line"] ["_law_lines"] (defScope (top 49)) := ⟨rfl, rfl, rfl, by decide +kernel, rfl, by decide +kernel, by decide +kernel⟩
theorem g__law_with_ends (D : FunD K "_law_with_ends" "_law_with_ends" (defArgs (top 49)) (defBody (top 49)) (defScope (top 49)) [] [] f fd) : GnOk P w K mg base 1 f fd ["_law_lines"] F__law_with_ends := gn_of D z__law_with_ends fun cdv B outer st G E hg hr => by
  have R : Rdy (cxOf (L2.CX P w) P w K mg base ["_law_lines", "_law_line"] "_law_with_ends" (defScope (top 49)) f cdv B outer st G E) (fun c d _ H => E c d H) 0 := ⟨takes_of rfl rfl rfl rfl, hg, hr⟩
  exact bv_one (sv_ret (ev_join (ev_str) (av_cons (ev_lc (own := [("_law_line", 1)]) rfl z__law_with_ends.nd (iv_seq (ev_var (i := 0))) (blkOk_by (N := ["_law_lines", "_law_line"]) (sc := defScope (top 49)) (by decide +kernel)) (fun s H C cl fp => gv_name (i := 1) z__law_with_ends.nd) (fun s H C cl fp => tsv_nil) (fun s H C cl fp => ev_add (ev_var (i := 1)) (ev_str))) (av_nil))))
noncomputable def d_need_text : DS := sIf (tNotD (asT (dCB (g2 isiV) (aCons (dVar 0) (aCons (dC (.ty "str")) (aNil)))))) (sNever) (sNext)
noncomputable def F_need_text : Fn := body 1 d_need_text
theorem z_need_text : FnScope ["thing"] ["thing"] (defScope (top 29)) := ⟨rfl, rfl, rfl, by decide +kernel, rfl, by decide +kernel, by decide +kernel⟩
theorem g_need_text (D : FunD K "need_text" "need_text" (defArgs (top 29)) (defBody (top 29)) (defScope (top 29)) [] [] f fd) (q_str : mg "str" = none) (q_isinstance : mg "isinstance" = none) : GnOk P w K mg base 1 f fd ["thing"] F_need_text := gn_of D z_need_text fun cdv B outer st G E hg hr => by
  have R : Rdy (cxOf (L2.CX P w) P w K mg base ["thing"] "need_text" (defScope (top 29)) f cdv B outer st G E) (fun c d _ H => E c d H) 0 := ⟨takes_of rfl rfl rfl rfl, hg, hr⟩
  exact bv_one (sv_if (tv_not (tv_val (evG_cb b_isi q_isinstance bf_isinstance (av_cons (ev_var (i := 0)) (av_cons (evG_ty q_str bt_str) (av_nil)))))) (bv_one (sv_never)) (bv_nil))
noncomputable def d_lines_of : DS := sSeq (sAsg (dMt "str" splitV (dVar 0) (aCons (dC (.str "\n")) (aNil))) (gStar 2 0 (gsCons (gNm 1) (gsCons (gNm 2) (gsNil))))) (sRet (dTup (aCons (dVar 1) (aCons (dVar 2) (aNil)))))
noncomputable def F_lines_of : Fn := body 3 d_lines_of
theorem z_lines_of : FnScope ["text", "lines", "rest"] ["text"] (defScope (top 34)) := ⟨rfl, rfl, rfl, by decide +kernel, rfl, by decide +kernel, by decide +kernel⟩
theorem g_lines_of (D : FunD K "lines_of" "lines_of" (defArgs (top 34)) (defBody (top 34)) (defScope (top 34)) [] [] f fd) : GnOk P w K mg base 1 f fd ["text"] F_lines_of := gn_of D z_lines_of fun cdv B outer st G E hg hr => by
  have R : Rdy (cxOf (L2.CX P w) P w K mg base ["text", "lines", "rest"] "lines_of" (defScope (top 34)) f cdv B outer st G E) (fun c d _ H => E c d H) 0 := ⟨takes_of rfl rfl rfl rfl, hg, hr⟩
  exact bv_cons (sv_asg (ev_split (ev_var (i := 0)) (av_cons (ev_str) (av_nil))) (gv_star (n := 2) (i := 0) rfl (gsv_star (gv_name (i := 1) z_lines_of.nd) (gsv_cons (gv_name (i := 2) z_lines_of.nd) (gsv_nil))))) (bv_one (sv_ret (ev_tup (av_cons (ev_var (i := 1)) (av_cons (ev_var (i := 2)) (av_nil))))))
noncomputable def d_need : DS := sIf (tNotD (asT (dVar 0))) (sNever) (sNext)
noncomputable def F_need : Fn := body 2 d_need
theorem z_need : FnScope ["is_right", "line"] ["is_right", "line"] (defScope (top 28)) := ⟨rfl, rfl, rfl, by decide +kernel, rfl, by decide +kernel, by decide +kernel⟩
theorem g_need (D : FunD K "need" "need" (defArgs (top 28)) (defBody (top 28)) (defScope (top 28)) [] [("line", .int 0)] f fd) : GnOk P w K mg base 1 f fd ["is_right", "line"] F_need := gn_of D z_need fun cdv B outer st G E hg hr => by
  have R : Rdy (cxOf (L2.CX P w) P w K mg base ["is_right", "line"] "need" (defScope (top 28)) f cdv B outer st G E) (fun c d _ H => E c d H) 0 := ⟨takes_of rfl rfl rfl rfl, hg, hr⟩
  exact bv_one (sv_if (tv_not (tv_val (ev_var (i := 0)))) (bv_one (sv_never)) (bv_nil))
noncomputable def d_number_by : DS := sSeq (sIf (tOrD (tNotD (asT (dChn leV leV (dC (.int 1)) (dCB (g1 len1) (aCons (dVar 0) (aNil))) (dC (.int 10))))) (tNotD (asT (dCB (g1 all1) (aCons (dLc (iStrD (dVar 0)) [1] (gNm 1) (tYesD) (dOp inV' (dVar 1) (dC (.str "0123456789")))) (aNil)))))) (sRet (dC .non)) (sNext)) (sRet (dIf (tOrD (asT (dOp eqV' (dVar 0) (dC (.str "0")))) (asT (dOp neV' (dOp ixV (dVar 0) (dC (.int 0))) (dC (.str "0"))))) (dCB (g1 int1) (aCons (dVar 0) (aNil))) (dC .non)))
noncomputable def F_number_by : Fn := body 2 d_number_by
theorem z_number_by : FnScope ["word", "sign"] ["word"] (defScope (top 30)) := ⟨rfl, rfl, rfl, by decide +kernel, rfl, by decide +kernel, by decide +kernel⟩
theorem g_number_by (D : FunD K "number_by" "number_by" (defArgs (top 30)) (defBody (top 30)) (defScope (top 30)) [] [] f fd) (q_len : mg "len" = none) (k_MOST_FIGURES : ∃ t, mg "MOST_FIGURES" = some (.int 10 t)) (k_FIGURES : ∃ t, mg "FIGURES" = some (.str "0123456789" t)) (q_all : mg "all" = none) (q_int : mg "int" = none) : GnOk P w K mg base 1 f fd ["word"] F_number_by := gn_of D z_number_by fun cdv B outer st G E hg hr => by
  have R : Rdy (cxOf (L2.CX P w) P w K mg base ["word", "sign"] "number_by" (defScope (top 30)) f cdv B outer st G E) (fun c d _ H => E c d H) 0 := ⟨takes_of rfl rfl rfl rfl, hg, hr⟩
  exact bv_cons (sv_if ((wv_or (tv_not (tv_chain (c_le R) (c_le R) (ev_int) (evG_cb b_len q_len bf_len (av_cons (ev_var (i := 0)) (av_nil))) (evG_int k_MOST_FIGURES))) (wv_or1 (tv_not (tv_val (evG_cb b_all q_all bf_all (av_cons (ev_lc (own := [("sign", 1)]) rfl z_number_by.nd (iv_str (ev_var (i := 0))) (blkOk_by (N := ["word", "sign"]) (sc := defScope (top 30)) (by decide +kernel)) (fun s H C cl fp => gv_name (i := 1) z_number_by.nd) (fun s H C cl fp => tsv_nil) (fun s H C cl fp => ev_c (c_in (Rdy.blk R)) (ev_var (i := 1)) (evG_str k_FIGURES))) (av_nil))))))).tv) (bv_one (sv_ret (ev_non))) (bv_nil)) (bv_one (sv_ret (ev_if ((wv_or (tv_c (c_eq R) (ev_var (i := 0)) (ev_str)) (wv_or1 (tv_c (c_ne R) (ev_ix R (ev_var (i := 0)) (ev_int)) (ev_str)))).tv) (evG_cty b_int q_int bt_int (av_cons (ev_var (i := 0)) (av_nil))) (ev_non))))
noncomputable def d_worths_by : DS := sRet (dCB (g1 tuple1) (aCons (dLc (iSeq (dMt "str" splitV (dVar 0) (aCons (dC (.str ",")) (aNil)))) [1] (gNm 1) (tYesD) (dCall F_number_by 1 [] (aCons (dVar 1) (aNil)))) (aNil)))
noncomputable def F_worths_by : Fn := body 2 d_worths_by
theorem z_worths_by : FnScope ["word", "one"] ["word"] (defScope (top 31)) := ⟨rfl, rfl, rfl, by decide +kernel, rfl, by decide +kernel, by decide +kernel⟩
theorem g_worths_by (D : FunD K "worths_by" "worths_by" (defArgs (top 31)) (defBody (top 31)) (defScope (top 31)) [] [] f fd) (c_number_by : Cal P w K mg base "number_by" 1 ["word"] [] F_number_by) (q_tuple : mg "tuple" = none) : GnOk P w K mg base 2 f fd ["word"] F_worths_by := gn_of D z_worths_by fun cdv B outer st G E hg hr => by
  have R : Rdy (cxOf (L2.CX P w) P w K mg base ["word", "one"] "worths_by" (defScope (top 31)) f cdv B outer st G E) (fun c d _ H => E c d H) 1 := ⟨takes_of rfl rfl rfl rfl, hg, hr⟩
  exact bv_one (sv_ret (evG_cty b_tuple q_tuple bt_tuple (av_cons (ev_lc (own := [("one", 1)]) rfl z_worths_by.nd (iv_seq (ev_split (ev_var (i := 0)) (av_cons (ev_str) (av_nil)))) (blkOk_by (N := ["word", "one"]) (sc := defScope (top 31)) (by decide +kernel)) (fun s H C cl fp => gv_name (i := 1) z_worths_by.nd) (fun s H C cl fp => tsv_nil) (fun s H C cl fp => ev_cal c_number_by (Rdy.blk R) (av_cons (ev_var (i := 1)) (av_nil)))) (av_nil))))
noncomputable def d_is_tuple : DS := sRet (dAnd (dCB (g2 isiV) (aCons (dVar 0) (aCons (dC (.ty "tuple")) (aNil)))) (dChn leV leV (dVar 1) (dCB (g1 len1) (aCons (dVar 0) (aNil))) (dVar 2)))
noncomputable def F_is_tuple : Fn := body 3 d_is_tuple
theorem z_is_tuple : FnScope ["thing", "least", "most"] ["thing", "least", "most"] (defScope (top 17)) := ⟨rfl, rfl, rfl, by decide +kernel, rfl, by decide +kernel, by decide +kernel⟩
theorem g_is_tuple (D : FunD K "is_tuple" "is_tuple" (defArgs (top 17)) (defBody (top 17)) (defScope (top 17)) [] [] f fd) (q_tuple : mg "tuple" = none) (q_isinstance : mg "isinstance" = none) (q_len : mg "len" = none) : GnOk P w K mg base 1 f fd ["thing", "least", "most"] F_is_tuple := gn_of D z_is_tuple fun cdv B outer st G E hg hr => by
  have R : Rdy (cxOf (L2.CX P w) P w K mg base ["thing", "least", "most"] "is_tuple" (defScope (top 17)) f cdv B outer st G E) (fun c d _ H => E c d H) 0 := ⟨takes_of rfl rfl rfl rfl, hg, hr⟩
  exact bv_one (sv_ret (ev_and (evG_cb b_isi q_isinstance bf_isinstance (av_cons (ev_var (i := 0)) (av_cons (evG_ty q_tuple bt_tuple) (av_nil)))) (ev_one (ev_chain (c_le R) (c_le R) (ev_var (i := 1)) (evG_cb b_len q_len bf_len (av_cons (ev_var (i := 0)) (av_nil))) (ev_var (i := 2))))))
noncomputable def d_is_name : DS := sRet (dAnd (dCB (g2 isiV) (aCons (dVar 0) (aCons (dC (.ty "str")) (aNil)))) (dAnd (dChn leV leV (dC (.int 1)) (dCB (g1 len1) (aCons (dVar 0) (aNil))) (dC (.int 8))) (dCB (g1 all1) (aCons (dLc (iStrD (dVar 0)) [1] (gNm 1) (tYesD) (dOp inV' (dVar 1) (dC (.str "abcdefghijklmnopqrstuvwxyz")))) (aNil)))))
noncomputable def F_is_name : Fn := body 2 d_is_name
theorem z_is_name : FnScope ["thing", "sign"] ["thing"] (defScope (top 15)) := ⟨rfl, rfl, rfl, by decide +kernel, rfl, by decide +kernel, by decide +kernel⟩
theorem g_is_name (D : FunD K "is_name" "is_name" (defArgs (top 15)) (defBody (top 15)) (defScope (top 15)) [] [] f fd) (q_str : mg "str" = none) (q_isinstance : mg "isinstance" = none) (q_len : mg "len" = none) (k_LONGEST : ∃ t, mg "LONGEST" = some (.int 8 t)) (k_LETTERS : ∃ t, mg "LETTERS" = some (.str "abcdefghijklmnopqrstuvwxyz" t)) (q_all : mg "all" = none) : GnOk P w K mg base 1 f fd ["thing"] F_is_name := gn_of D z_is_name fun cdv B outer st G E hg hr => by
  have R : Rdy (cxOf (L2.CX P w) P w K mg base ["thing", "sign"] "is_name" (defScope (top 15)) f cdv B outer st G E) (fun c d _ H => E c d H) 0 := ⟨takes_of rfl rfl rfl rfl, hg, hr⟩
  exact bv_one (sv_ret (ev_and (evG_cb b_isi q_isinstance bf_isinstance (av_cons (ev_var (i := 0)) (av_cons (evG_ty q_str bt_str) (av_nil)))) (ev_and (ev_chain (c_le R) (c_le R) (ev_int) (evG_cb b_len q_len bf_len (av_cons (ev_var (i := 0)) (av_nil))) (evG_int k_LONGEST)) (ev_one (evG_cb b_all q_all bf_all (av_cons (ev_lc (own := [("sign", 1)]) rfl z_is_name.nd (iv_str (ev_var (i := 0))) (blkOk_by (N := ["thing", "sign"]) (sc := defScope (top 15)) (by decide +kernel)) (fun s H C cl fp => gv_name (i := 1) z_is_name.nd) (fun s H C cl fp => tsv_nil) (fun s H C cl fp => ev_c (c_in (Rdy.blk R)) (ev_var (i := 1)) (evG_str k_LETTERS))) (av_nil)))))))
noncomputable def d_is_worth : DS := sRet (dAnd (dCB (g2 isiV) (aCons (dVar 0) (aCons (dC (.ty "int")) (aNil)))) (dAnd (dNot (dCB (g2 isiV) (aCons (dVar 0) (aCons (dC (.ty "bool")) (aNil))))) (dChn leV leV (dC (.int 0)) (dVar 0) (dC (.int 9999)))))
noncomputable def F_is_worth : Fn := body 1 d_is_worth
theorem z_is_worth : FnScope ["thing"] ["thing"] (defScope (top 16)) := ⟨rfl, rfl, rfl, by decide +kernel, rfl, by decide +kernel, by decide +kernel⟩
theorem g_is_worth (D : FunD K "is_worth" "is_worth" (defArgs (top 16)) (defBody (top 16)) (defScope (top 16)) [] [] f fd) (q_int : mg "int" = none) (q_isinstance : mg "isinstance" = none) (q_bool : mg "bool" = none) (k_GREATEST : ∃ t, mg "GREATEST" = some (.int 9999 t)) : GnOk P w K mg base 1 f fd ["thing"] F_is_worth := gn_of D z_is_worth fun cdv B outer st G E hg hr => by
  have R : Rdy (cxOf (L2.CX P w) P w K mg base ["thing"] "is_worth" (defScope (top 16)) f cdv B outer st G E) (fun c d _ H => E c d H) 0 := ⟨takes_of rfl rfl rfl rfl, hg, hr⟩
  exact bv_one (sv_ret (ev_and (evG_cb b_isi q_isinstance bf_isinstance (av_cons (ev_var (i := 0)) (av_cons (evG_ty q_int bt_int) (av_nil)))) (ev_and (ev_not (evG_cb b_isi q_isinstance bf_isinstance (av_cons (ev_var (i := 0)) (av_cons (evG_ty q_bool bt_bool) (av_nil))))) (ev_one (ev_chain (c_le R) (c_le R) (ev_int) (ev_var (i := 0)) (evG_int k_GREATEST))))))
noncomputable def d_are_worths : DS := sRet (dAnd (dCall F_is_tuple 3 [] (aCons (dVar 0) (aCons (dC (.int 1)) (aCons (dC (.int 6)) (aNil))))) (dAnd (dCB (g1 all1) (aCons (dLc (iSeq (dVar 0)) [1] (gNm 1) (tYesD) (dCall F_is_worth 1 [] (aCons (dVar 1) (aNil)))) (aNil))) (dOp eqV' (dLenSet (dVar 0)) (dCB (g1 len1) (aCons (dVar 0) (aNil))))))
noncomputable def F_are_worths : Fn := body 2 d_are_worths
theorem z_are_worths : FnScope ["thing", "one"] ["thing"] (defScope (top 18)) := ⟨rfl, rfl, rfl, by decide +kernel, rfl, by decide +kernel, by decide +kernel⟩
theorem g_are_worths (D : FunD K "are_worths" "are_worths" (defArgs (top 18)) (defBody (top 18)) (defScope (top 18)) [] [] f fd) (k_MOST_WORTHS : ∃ t, mg "MOST_WORTHS" = some (.int 6 t)) (c_is_tuple : Cal P w K mg base "is_tuple" 1 ["thing", "least", "most"] [] F_is_tuple) (c_is_worth : Cal P w K mg base "is_worth" 1 ["thing"] [] F_is_worth) (q_all : mg "all" = none) (q_len : mg "len" = none) (q_set : mg "set" = none) : GnOk P w K mg base 2 f fd ["thing"] F_are_worths := gn_of D z_are_worths fun cdv B outer st G E hg hr => by
  have R : Rdy (cxOf (L2.CX P w) P w K mg base ["thing", "one"] "are_worths" (defScope (top 18)) f cdv B outer st G E) (fun c d _ H => E c d H) 1 := ⟨takes_of rfl rfl rfl rfl, hg, hr⟩
  exact bv_one (sv_ret (ev_and (ev_cal c_is_tuple R (av_cons (ev_var (i := 0)) (av_cons (ev_int) (av_cons (evG_int k_MOST_WORTHS) (av_nil))))) (ev_and (evG_cb b_all q_all bf_all (av_cons (ev_lc (own := [("one", 1)]) rfl z_are_worths.nd (iv_seq (ev_var (i := 0))) (blkOk_by (N := ["thing", "one"]) (sc := defScope (top 18)) (by decide +kernel)) (fun s H C cl fp => gv_name (i := 1) z_are_worths.nd) (fun s H C cl fp => tsv_nil) (fun s H C cl fp => ev_cal c_is_worth (Rdy.blk R) (av_cons (ev_var (i := 1)) (av_nil)))) (av_nil))) (ev_one (ev_c (c_eq R) (ev_lenSet rfl rfl q_len rfl q_set (ev_var (i := 0))) (evG_cb b_len q_len bf_len (av_cons (ev_var (i := 0)) (av_nil))))))))
noncomputable def d_is_pair : DS := sRet (dAnd (dCall F_is_tuple 3 [] (aCons (dVar 0) (aCons (dC (.int 2)) (aCons (dC (.int 2)) (aNil))))) (dAnd (dCall F_is_name 1 [] (aCons (dOp ixV (dVar 0) (dC (.int 0))) (aNil))) (dCall F_is_worth 1 [] (aCons (dOp ixV (dVar 0) (dC (.int 1))) (aNil)))))
noncomputable def F_is_pair : Fn := body 1 d_is_pair
theorem z_is_pair : FnScope ["thing"] ["thing"] (defScope (top 19)) := ⟨rfl, rfl, rfl, by decide +kernel, rfl, by decide +kernel, by decide +kernel⟩
theorem g_is_pair (D : FunD K "is_pair" "is_pair" (defArgs (top 19)) (defBody (top 19)) (defScope (top 19)) [] [] f fd) (c_is_tuple : Cal P w K mg base "is_tuple" 1 ["thing", "least", "most"] [] F_is_tuple) (c_is_name : Cal P w K mg base "is_name" 1 ["thing"] [] F_is_name) (c_is_worth : Cal P w K mg base "is_worth" 1 ["thing"] [] F_is_worth) : GnOk P w K mg base 2 f fd ["thing"] F_is_pair := gn_of D z_is_pair fun cdv B outer st G E hg hr => by
  have R : Rdy (cxOf (L2.CX P w) P w K mg base ["thing"] "is_pair" (defScope (top 19)) f cdv B outer st G E) (fun c d _ H => E c d H) 1 := ⟨takes_of rfl rfl rfl rfl, hg, hr⟩
  exact bv_one (sv_ret (ev_and (ev_cal c_is_tuple R (av_cons (ev_var (i := 0)) (av_cons (ev_int) (av_cons (ev_int) (av_nil))))) (ev_and (ev_cal c_is_name R (av_cons (ev_ix R (ev_var (i := 0)) (ev_int)) (av_nil))) (ev_one (ev_cal c_is_worth R (av_cons (ev_ix R (ev_var (i := 0)) (ev_int)) (av_nil)))))))
noncomputable def d_is_wish : DS := sSeq (sIf (tNotD (asT (dCall F_is_tuple 3 [] (aCons (dVar 0) (aCons (dC (.int 4)) (aCons (dC (.int 4)) (aNil))))))) (sRet (dC (.bl false))) (sNext)) (sSeq (sAsg (dVar 0) (gSeq 4 (gsCons (gNm 1) (gsCons (gNm 2) (gsCons (gNm 3) (gsCons (gNm 4) (gsNil))))))) (sRet (dAnd (dCall F_is_name 1 [] (aCons (dVar 1) (aNil))) (dAnd (dCall F_are_worths 1 [] (aCons (dVar 2) (aNil))) (dAnd (dCB (g2 isiV) (aCons (dVar 3) (aCons (dC (.ty "bool")) (aNil)))) (dOr (dOp isV2 (dVar 4) (dC .non)) (dCall F_is_pair 1 [] (aCons (dVar 4) (aNil)))))))))
noncomputable def F_is_wish : Fn := body 5 d_is_wish
theorem z_is_wish : FnScope ["thing", "kind", "worths", "must", "needs"] ["thing"] (defScope (top 20)) := ⟨rfl, rfl, rfl, by decide +kernel, rfl, by decide +kernel, by decide +kernel⟩
theorem g_is_wish (D : FunD K "is_wish" "is_wish" (defArgs (top 20)) (defBody (top 20)) (defScope (top 20)) [] [] f fd) (c_is_tuple : Cal P w K mg base "is_tuple" 1 ["thing", "least", "most"] [] F_is_tuple) (c_is_name : Cal P w K mg base "is_name" 1 ["thing"] [] F_is_name) (c_are_worths : Cal P w K mg base "are_worths" 2 ["thing"] [] F_are_worths) (q_bool : mg "bool" = none) (q_isinstance : mg "isinstance" = none) (c_is_pair : Cal P w K mg base "is_pair" 2 ["thing"] [] F_is_pair) : GnOk P w K mg base 3 f fd ["thing"] F_is_wish := gn_of D z_is_wish fun cdv B outer st G E hg hr => by
  have R : Rdy (cxOf (L2.CX P w) P w K mg base ["thing", "kind", "worths", "must", "needs"] "is_wish" (defScope (top 20)) f cdv B outer st G E) (fun c d _ H => E c d H) 2 := ⟨takes_of rfl rfl rfl rfl, hg, hr⟩
  exact bv_cons (sv_if (tv_not (tv_val (ev_cal c_is_tuple R (av_cons (ev_var (i := 0)) (av_cons (ev_int) (av_cons (ev_int) (av_nil))))))) (bv_one (sv_ret (ev_bl))) (bv_nil)) (bv_cons (sv_asg (ev_var (i := 0)) (gv_seq (n := 4) rfl (gsv_cons (gv_name (i := 1) z_is_wish.nd) (gsv_cons (gv_name (i := 2) z_is_wish.nd) (gsv_cons (gv_name (i := 3) z_is_wish.nd) (gsv_cons (gv_name (i := 4) z_is_wish.nd) (gsv_nil))))))) (bv_one (sv_ret (ev_and (ev_cal c_is_name R (av_cons (ev_var (i := 1)) (av_nil))) (ev_and (ev_cal c_are_worths R (av_cons (ev_var (i := 2)) (av_nil))) (ev_and (evG_cb b_isi q_isinstance bf_isinstance (av_cons (ev_var (i := 3)) (av_cons (evG_ty q_bool bt_bool) (av_nil)))) (ev_one (ev_or (ev_c (c_is R) (ev_var (i := 4)) (ev_non)) (ev_one (ev_cal c_is_pair R (av_cons (ev_var (i := 4)) (av_nil))))))))))))
noncomputable def d_wish_by : DS := sSeq (sAsg (dMt "str" splitV (dVar 0) (aCons (dC (.str " ")) (aNil))) (gStar 2 1 (gsCons (gNm 1) (gsCons (gNm 2) (gsNil))))) (sSeq (sAsg (dIf (asT (dOp neV' (dVar 2) (dLst (aNil)))) (dCall F_worths_by 1 [] (aCons (dOp ixV (dVar 2) (dC (.int 0))) (aNil))) (dTup (aNil))) (gNm 3)) (sSeq (sAsg (dSl (dVar 2) (some (dC (.int 1))) none) (gNm 4)) (sSeq (sAsg (dOp eqV' (dSl (dVar 4) none (some (dC (.int 1)))) (dLst (aCons (dC (.str "must")) (aNil)))) (gNm 5)) (sSeq (sIf (asT (dVar 5)) (sAsg (dSl (dVar 4) (some (dC (.int 1))) none) (gNm 4)) (sNext)) (sSeq (sAsg (dC .non) (gNm 6)) (sSeq (sIf (asT (dOp neV' (dVar 4) (dLst (aNil)))) (sAsg (dIf (tAndD (asT (dOp eqV' (dCB (g1 len1) (aCons (dVar 4) (aNil))) (dC (.int 3)))) (asT (dOp eqV' (dOp ixV (dVar 4) (dC (.int 0))) (dC (.str "if"))))) (dTup (aCons (dOp ixV (dVar 4) (dC (.int 1))) (aCons (dCall F_number_by 1 [] (aCons (dOp ixV (dVar 4) (dC (.int 2))) (aNil))) (aNil)))) (dTup (aNil))) (gNm 6)) (sNext)) (sSeq (sAsg (dTup (aCons (dVar 1) (aCons (dVar 3) (aCons (dVar 5) (aCons (dVar 6) (aNil)))))) (gNm 7)) (sRet (dIf (asT (dCall F_is_wish 1 [] (aCons (dVar 7) (aNil)))) (dVar 7) (dC .non))))))))))
noncomputable def F_wish_by : Fn := body 8 d_wish_by
theorem z_wish_by : FnScope ["text", "kind", "words", "worths", "rest", "must", "needs", "wish"] ["text"] (defScope (top 32)) := ⟨rfl, rfl, rfl, by decide +kernel, rfl, by decide +kernel, by decide +kernel⟩
theorem g_wish_by (D : FunD K "wish_by" "wish_by" (defArgs (top 32)) (defBody (top 32)) (defScope (top 32)) [] [] f fd) (c_worths_by : Cal P w K mg base "worths_by" 2 ["word"] [] F_worths_by) (q_len : mg "len" = none) (c_number_by : Cal P w K mg base "number_by" 1 ["word"] [] F_number_by) (c_is_wish : Cal P w K mg base "is_wish" 3 ["thing"] [] F_is_wish) : GnOk P w K mg base 4 f fd ["text"] F_wish_by := gn_of D z_wish_by fun cdv B outer st G E hg hr => by
  have R : Rdy (cxOf (L2.CX P w) P w K mg base ["text", "kind", "words", "worths", "rest", "must", "needs", "wish"] "wish_by" (defScope (top 32)) f cdv B outer st G E) (fun c d _ H => E c d H) 3 := ⟨takes_of rfl rfl rfl rfl, hg, hr⟩
  exact bv_cons (sv_asg (ev_split (ev_var (i := 0)) (av_cons (ev_str) (av_nil))) (gv_star (n := 2) (i := 1) rfl (gsv_cons (gv_name (i := 1) z_wish_by.nd) (gsv_star (gv_name (i := 2) z_wish_by.nd) (gsv_nil))))) (bv_cons (sv_set (i := 3) (ev_if (tv_c (c_ne R) (ev_var (i := 2)) (ev_lst (av_nil))) (ev_cal c_worths_by R (av_cons (ev_ix R (ev_var (i := 2)) (ev_int)) (av_nil))) (ev_tup (av_nil))) z_wish_by.nd) (bv_cons (sv_set (i := 4) (ev_sl (ev_var (i := 2)) (ov_some (ev_int)) ov_none) z_wish_by.nd) (bv_cons (sv_set (i := 5) (ev_c (c_eq R) (ev_sl (ev_var (i := 4)) ov_none (ov_some (ev_int))) (ev_lst (av_cons (ev_str) (av_nil)))) z_wish_by.nd) (bv_cons (sv_if (tv_val (ev_var (i := 5))) (bv_one (sv_set (i := 4) (ev_sl (ev_var (i := 4)) (ov_some (ev_int)) ov_none) z_wish_by.nd)) (bv_nil)) (bv_cons (sv_set (i := 6) (ev_non) z_wish_by.nd) (bv_cons (sv_if (tv_c (c_ne R) (ev_var (i := 4)) (ev_lst (av_nil))) (bv_one (sv_set (i := 6) (ev_if ((wv_and (tv_c (c_eq R) (evG_cb b_len q_len bf_len (av_cons (ev_var (i := 4)) (av_nil))) (ev_int)) (wv_and1 (tv_c (c_eq R) (ev_ix R (ev_var (i := 4)) (ev_int)) (ev_str)))).tv) (ev_tup (av_cons (ev_ix R (ev_var (i := 4)) (ev_int)) (av_cons (ev_cal c_number_by R (av_cons (ev_ix R (ev_var (i := 4)) (ev_int)) (av_nil))) (av_nil)))) (ev_tup (av_nil))) z_wish_by.nd)) (bv_nil)) (bv_cons (sv_set (i := 7) (ev_tup (av_cons (ev_var (i := 1)) (av_cons (ev_var (i := 3)) (av_cons (ev_var (i := 5)) (av_cons (ev_var (i := 6)) (av_nil)))))) z_wish_by.nd) (bv_one (sv_ret (ev_if (tv_val (ev_cal c_is_wish R (av_cons (ev_var (i := 7)) (av_nil)))) (ev_var (i := 7)) (ev_non)))))))))))
noncomputable def d_are_wishes : DS := sSeq (sIf (tOrD (tNotD (asT (dCall F_is_tuple 3 [] (aCons (dVar 0) (aCons (dC (.int 0)) (aCons (dC (.int 6)) (aNil))))))) (tNotD (asT (dCB (g1 all1) (aCons (dLc (iSeq (dVar 0)) [6] (gNm 6) (tYesD) (dCall F_is_wish 1 [] (aCons (dVar 6) (aNil)))) (aNil)))))) (sRet (dC (.bl false))) (sNext)) (sSeq (sAsg (dLstO (aNil)) (gNm 1)) (sSeq (sFor (iSeq (dVar 0)) (gSeq 4 (gsCons (gNm 2) (gsCons (gNm 3) (gsCons (gNm 4) (gsCons (gNm 5) (gsNil)))))) (sSeq (sIf (tOrD (asT (dOp inV' (dVar 2) (dVar 1))) (tAndD (asT (dOp isNotV2 (dVar 5) (dC .non))) (asT (dOp notInV' (dOp ixV (dVar 5) (dC (.int 0))) (dVar 1))))) (sRet (dC (.bl false))) (sNext)) (sExpr (dMt "list" appendV (dVar 1) (aCons (dVar 2) (aNil)))))) (sRet (dC (.bl true)))))
noncomputable def F_are_wishes : Fn := cutF (body 7 d_are_wishes)
theorem z_are_wishes : FnScope ["thing", "kinds", "kind", "worths", "must", "needs", "wish"] ["thing"] (defScope (top 21)) := ⟨rfl, rfl, rfl, by decide +kernel, rfl, by decide +kernel, by decide +kernel⟩
theorem g_are_wishes (D : FunD K "are_wishes" "are_wishes" (defArgs (top 21)) (defBody (top 21)) (defScope (top 21)) [] [] f fd) (k_MOST_WISHES : ∃ t, mg "MOST_WISHES" = some (.int 6 t)) (c_is_tuple : Cal P w K mg base "is_tuple" 1 ["thing", "least", "most"] [] F_is_tuple) (c_is_wish : Cal P w K mg base "is_wish" 3 ["thing"] [] F_is_wish) (q_all : mg "all" = none) : GnOk P w K mg base 4 f fd ["thing"] F_are_wishes := GnOk.cut <| gn_of D z_are_wishes fun cdv B outer st G E hg hr => by
  have R : Rdy (cxOf (L2.CX P w) P w K mg base ["thing", "kinds", "kind", "worths", "must", "needs", "wish"] "are_wishes" (defScope (top 21)) f cdv B outer st G E) (fun c d _ H => E c d H) 3 := ⟨takes_of rfl rfl rfl rfl, hg, hr⟩
  exact bv_cons (sv_if ((wv_or (tv_not (tv_val (ev_cal c_is_tuple R (av_cons (ev_var (i := 0)) (av_cons (ev_int) (av_cons (evG_int k_MOST_WISHES) (av_nil))))))) (wv_or1 (tv_not (tv_val (evG_cb b_all q_all bf_all (av_cons (ev_lc (own := [("wish", 6)]) rfl z_are_wishes.nd (iv_seq (ev_var (i := 0))) (blkOk_by (N := ["thing", "kinds", "kind", "worths", "must", "needs", "wish"]) (sc := defScope (top 21)) (by decide +kernel)) (fun s H C cl fp => gv_name (i := 6) z_are_wishes.nd) (fun s H C cl fp => tsv_nil) (fun s H C cl fp => ev_cal c_is_wish (Rdy.blk R) (av_cons (ev_var (i := 6)) (av_nil)))) (av_nil))))))).tv) (bv_one (sv_ret (ev_bl))) (bv_nil)) (bv_cons (sv_set (i := 1) (ev_lstO (av_nil)) z_are_wishes.nd) (bv_cons (sv_for (passes_of rfl) rfl (iv_seq (ev_var (i := 0))) (gv_seq (n := 4) rfl (gsv_cons (gv_name (i := 2) z_are_wishes.nd) (gsv_cons (gv_name (i := 3) z_are_wishes.nd) (gsv_cons (gv_name (i := 4) z_are_wishes.nd) (gsv_cons (gv_name (i := 5) z_are_wishes.nd) (gsv_nil)))))) (bv_cons (sv_if ((wv_or (tv_c (c_in R) (ev_var (i := 2)) (ev_var (i := 1))) (wv_or1 ((wv_and (tv_c (c_isNot R) (ev_var (i := 5)) (ev_non)) (wv_and1 (tv_c (c_notIn R) (ev_ix R (ev_var (i := 5)) (ev_int)) (ev_var (i := 1))))).tv))).tv) (bv_one (sv_ret (ev_bl))) (bv_nil)) (bv_one (sv_expr (ev_append (ev_var (i := 1)) (av_cons (ev_var (i := 2)) (av_nil))))))) (bv_one (sv_ret (ev_bl)))))
noncomputable def d_wishes_until : DS := sSeq (sAsg (dTup (aNil)) (gNm 2)) (sSeq (sFor (iNumD (aCons (dSl (dVar 0) (some (dC (.int 1))) none) (aCons (dC (.int 1)) (aNil)))) (gSeq 2 (gsCons (gNm 3) (gsCons (gNm 4) (gsNil)))) (sSeq (sIf (asT (dOp eqV' (dVar 4) (dVar 1))) (sBrk) (sNext)) (sSeq (sAsg (dCall F_wish_by 1 [] (aCons (dVar 4) (aNil))) (gNm 5)) (sSeq (sExpr (dCallK F_need 1 1 2 (· ++ ·) (aCons (dOp isNotV2 (dVar 5) (dC .non)) (aNil)) (aCons (dVar 3) (aNil)))) (sSeq (dAug 2 iaddV (dTup (aCons (dVar 5) (aNil)))) (sExpr (dCallK F_need 1 1 2 (· ++ ·) (aCons (dCall F_are_wishes 1 [] (aCons (dVar 2) (aNil))) (aNil)) (aCons (dVar 3) (aNil))))))))) (sRet (dVar 2)))
noncomputable def F_wishes_until : Fn := body 6 d_wishes_until
theorem z_wishes_until : FnScope ["lines", "word", "wishes", "at", "line", "wish"] ["lines", "word"] (defScope (top 35)) := ⟨rfl, rfl, rfl, by decide +kernel, rfl, by decide +kernel, by decide +kernel⟩
theorem g_wishes_until (D : FunD K "wishes_until" "wishes_until" (defArgs (top 35)) (defBody (top 35)) (defScope (top 35)) [] [] f fd) (q_enumerate : mg "enumerate" = none) (c_wish_by : Cal P w K mg base "wish_by" 4 ["text"] [] F_wish_by) (ck_need : CalK P w K mg base "need" 1 ["is_right", "line"] 1 ["line"] (· ++ ·) F_need) (c_are_wishes : Cal P w K mg base "are_wishes" 4 ["thing"] [] F_are_wishes) : GnOk P w K mg base 5 f fd ["lines", "word"] F_wishes_until := gn_of D z_wishes_until fun cdv B outer st G E hg hr => by
  have R : Rdy (cxOf (L2.CX P w) P w K mg base ["lines", "word", "wishes", "at", "line", "wish"] "wishes_until" (defScope (top 35)) f cdv B outer st G E) (fun c d _ H => E c d H) 4 := ⟨takes_of rfl rfl rfl rfl, hg, hr⟩
  exact bv_cons (sv_set (i := 2) (ev_tup (av_nil)) z_wishes_until.nd) (bv_cons (sv_for (passes_of rfl) rfl (iv_num rfl q_enumerate (av_cons (ev_sl (ev_var (i := 0)) (ov_some (ev_int)) ov_none) (av_cons (ev_int) (av_nil)))) (gv_seq (n := 2) rfl (gsv_cons (gv_name (i := 3) z_wishes_until.nd) (gsv_cons (gv_name (i := 4) z_wishes_until.nd) (gsv_nil)))) (bv_cons (sv_if (tv_c (c_eq R) (ev_var (i := 4)) (ev_var (i := 1))) (bv_one (sv_break)) (bv_nil)) (bv_cons (sv_set (i := 5) (ev_cal c_wish_by R (av_cons (ev_var (i := 4)) (av_nil))) z_wishes_until.nd) (bv_cons (sv_expr (ev_calK ck_need R (av_cons (ev_c (c_isNot R) (ev_var (i := 5)) (ev_non)) (av_nil)) (kv_cons (ev_var (i := 3)) (kv_nil)))) (bv_cons (sv_iadd (i := 2) z_wishes_until.nd (ev_tup (av_cons (ev_var (i := 5)) (av_nil)))) (bv_one (sv_expr (ev_calK ck_need R (av_cons (ev_cal c_are_wishes R (av_cons (ev_var (i := 2)) (av_nil))) (av_nil)) (kv_cons (ev_var (i := 3)) (kv_nil)))))))))) (bv_one (sv_ret (ev_var (i := 2)))))
noncomputable def d_is_bound : DS := sRet (dAnd (dCall F_is_tuple 3 [] (aCons (dVar 0) (aCons (dC (.int 2)) (aCons (dC (.int 2)) (aNil))))) (dAnd (dCall F_is_name 1 [] (aCons (dOp ixV (dVar 0) (dC (.int 0))) (aNil))) (dCall F_are_worths 1 [] (aCons (dOp ixV (dVar 0) (dC (.int 1))) (aNil)))))
noncomputable def F_is_bound : Fn := body 1 d_is_bound
theorem z_is_bound : FnScope ["thing"] ["thing"] (defScope (top 22)) := ⟨rfl, rfl, rfl, by decide +kernel, rfl, by decide +kernel, by decide +kernel⟩
theorem g_is_bound (D : FunD K "is_bound" "is_bound" (defArgs (top 22)) (defBody (top 22)) (defScope (top 22)) [] [] f fd) (c_is_tuple : Cal P w K mg base "is_tuple" 1 ["thing", "least", "most"] [] F_is_tuple) (c_is_name : Cal P w K mg base "is_name" 1 ["thing"] [] F_is_name) (c_are_worths : Cal P w K mg base "are_worths" 2 ["thing"] [] F_are_worths) : GnOk P w K mg base 3 f fd ["thing"] F_is_bound := gn_of D z_is_bound fun cdv B outer st G E hg hr => by
  have R : Rdy (cxOf (L2.CX P w) P w K mg base ["thing"] "is_bound" (defScope (top 22)) f cdv B outer st G E) (fun c d _ H => E c d H) 2 := ⟨takes_of rfl rfl rfl rfl, hg, hr⟩
  exact bv_one (sv_ret (ev_and (ev_cal c_is_tuple R (av_cons (ev_var (i := 0)) (av_cons (ev_int) (av_cons (ev_int) (av_nil))))) (ev_and (ev_cal c_is_name R (av_cons (ev_ix R (ev_var (i := 0)) (ev_int)) (av_nil))) (ev_one (ev_cal c_are_worths R (av_cons (ev_ix R (ev_var (i := 0)) (ev_int)) (av_nil)))))))
noncomputable def d_bound_by : DS := sSeq (sAsg (dMt "str" splitV (dVar 0) (aCons (dC (.str " ")) (aNil))) (gStar 2 1 (gsCons (gNm 1) (gsCons (gNm 2) (gsNil))))) (sSeq (sAsg (dIf (asT (dOp eqV' (dCB (g1 len1) (aCons (dVar 2) (aNil))) (dC (.int 1)))) (dTup (aCons (dVar 1) (aCons (dCall F_worths_by 1 [] (aCons (dOp ixV (dVar 2) (dC (.int 0))) (aNil))) (aNil)))) (dC .non)) (gNm 3)) (sRet (dIf (asT (dCall F_is_bound 1 [] (aCons (dVar 3) (aNil)))) (dVar 3) (dC .non))))
noncomputable def F_bound_by : Fn := body 4 d_bound_by
theorem z_bound_by : FnScope ["text", "kind", "words", "bound"] ["text"] (defScope (top 33)) := ⟨rfl, rfl, rfl, by decide +kernel, rfl, by decide +kernel, by decide +kernel⟩
theorem g_bound_by (D : FunD K "bound_by" "bound_by" (defArgs (top 33)) (defBody (top 33)) (defScope (top 33)) [] [] f fd) (q_len : mg "len" = none) (c_worths_by : Cal P w K mg base "worths_by" 2 ["word"] [] F_worths_by) (c_is_bound : Cal P w K mg base "is_bound" 3 ["thing"] [] F_is_bound) : GnOk P w K mg base 4 f fd ["text"] F_bound_by := gn_of D z_bound_by fun cdv B outer st G E hg hr => by
  have R : Rdy (cxOf (L2.CX P w) P w K mg base ["text", "kind", "words", "bound"] "bound_by" (defScope (top 33)) f cdv B outer st G E) (fun c d _ H => E c d H) 3 := ⟨takes_of rfl rfl rfl rfl, hg, hr⟩
  exact bv_cons (sv_asg (ev_split (ev_var (i := 0)) (av_cons (ev_str) (av_nil))) (gv_star (n := 2) (i := 1) rfl (gsv_cons (gv_name (i := 1) z_bound_by.nd) (gsv_star (gv_name (i := 2) z_bound_by.nd) (gsv_nil))))) (bv_cons (sv_set (i := 3) (ev_if (tv_c (c_eq R) (evG_cb b_len q_len bf_len (av_cons (ev_var (i := 2)) (av_nil))) (ev_int)) (ev_tup (av_cons (ev_var (i := 1)) (av_cons (ev_cal c_worths_by R (av_cons (ev_ix R (ev_var (i := 2)) (ev_int)) (av_nil))) (av_nil)))) (ev_non)) z_bound_by.nd) (bv_one (sv_ret (ev_if (tv_val (ev_cal c_is_bound R (av_cons (ev_var (i := 3)) (av_nil)))) (ev_var (i := 3)) (ev_non)))))
noncomputable def d_are_bounds : DS := sSeq (sIf (tOrD (tNotD (asT (dCall F_is_tuple 3 [] (aCons (dVar 0) (aCons (dC (.int 0)) (aCons (dC (.int 8)) (aNil))))))) (tNotD (asT (dCB (g1 all1) (aCons (dLc (iSeq (dVar 0)) [1] (gNm 1) (tYesD) (dCall F_is_bound 1 [] (aCons (dVar 1) (aNil)))) (aNil)))))) (sRet (dC (.bl false))) (sNext)) (sRet (dOp eqV' (dLenSk (iSeq (dVar 0)) [2, 3] (gSeq 2 (gsCons (gNm 2) (gsCons (gNm 3) (gsNil)))) (tYesD) (dVar 2)) (dCB (g1 len1) (aCons (dVar 0) (aNil)))))
noncomputable def F_are_bounds : Fn := body 4 d_are_bounds
theorem z_are_bounds : FnScope ["thing", "bound", "kind", "worths"] ["thing"] (defScope (top 23)) := ⟨rfl, rfl, rfl, by decide +kernel, rfl, by decide +kernel, by decide +kernel⟩
theorem g_are_bounds (D : FunD K "are_bounds" "are_bounds" (defArgs (top 23)) (defBody (top 23)) (defScope (top 23)) [] [] f fd) (k_MOST_BOUNDS : ∃ t, mg "MOST_BOUNDS" = some (.int 8 t)) (c_is_tuple : Cal P w K mg base "is_tuple" 1 ["thing", "least", "most"] [] F_is_tuple) (c_is_bound : Cal P w K mg base "is_bound" 3 ["thing"] [] F_is_bound) (q_all : mg "all" = none) (q_len : mg "len" = none) : GnOk P w K mg base 4 f fd ["thing"] F_are_bounds := gn_of D z_are_bounds fun cdv B outer st G E hg hr => by
  have R : Rdy (cxOf (L2.CX P w) P w K mg base ["thing", "bound", "kind", "worths"] "are_bounds" (defScope (top 23)) f cdv B outer st G E) (fun c d _ H => E c d H) 3 := ⟨takes_of rfl rfl rfl rfl, hg, hr⟩
  exact bv_cons (sv_if ((wv_or (tv_not (tv_val (ev_cal c_is_tuple R (av_cons (ev_var (i := 0)) (av_cons (ev_int) (av_cons (evG_int k_MOST_BOUNDS) (av_nil))))))) (wv_or1 (tv_not (tv_val (evG_cb b_all q_all bf_all (av_cons (ev_lc (own := [("bound", 1)]) rfl z_are_bounds.nd (iv_seq (ev_var (i := 0))) (blkOk_by (N := ["thing", "bound", "kind", "worths"]) (sc := defScope (top 23)) (by decide +kernel)) (fun s H C cl fp => gv_name (i := 1) z_are_bounds.nd) (fun s H C cl fp => tsv_nil) (fun s H C cl fp => ev_cal c_is_bound (Rdy.blk R) (av_cons (ev_var (i := 1)) (av_nil)))) (av_nil))))))).tv) (bv_one (sv_ret (ev_bl))) (bv_nil)) (bv_one (sv_ret (ev_c (c_eq R) (ev_lenSk (own := [("kind", 2), ("worths", 3)]) rfl q_len rfl z_are_bounds.nd (iv_seq (ev_var (i := 0))) (blkOk_by (N := ["thing", "bound", "kind", "worths"]) (sc := defScope (top 23)) (by decide +kernel)) (fun s H C cl fp => gv_seq (n := 2) rfl (gsv_cons (gv_name (i := 2) z_are_bounds.nd) (gsv_cons (gv_name (i := 3) z_are_bounds.nd) (gsv_nil)))) (fun s H C cl fp => tsv_nil) (fun s H C cl fp => ev_var (i := 2))) (evG_cb b_len q_len bf_len (av_cons (ev_var (i := 0)) (av_nil))))))
noncomputable def d_read_book : DS := sSeq (sExpr (dCall F_need_text 1 [] (aCons (dVar 0) (aNil)))) (sSeq (sAsg (dCall F_lines_of 1 [] (aCons (dVar 0) (aNil))) (gSeq 2 (gsCons (gNm 1) (gsCons (gNm 2) (gsNil))))) (sSeq (sExpr (dCall F_need 2 [.int 0] (aCons (dOp eqV' (dSl (dVar 1) none (some (dC (.int 1)))) (dLst (aCons (dC (.str "wishes")) (aNil)))) (aNil)))) (sSeq (sAsg (dCall F_wishes_until 2 [] (aCons (dVar 1) (aCons (dC (.str "bounds")) (aNil)))) (gNm 3)) (sSeq (sAsg (dOp addV (dCB (g1 len1) (aCons (dVar 3) (aNil))) (dC (.int 2))) (gNm 4)) (sSeq (sExpr (dCallK F_need 1 1 2 (· ++ ·) (aCons (dOp leV (dVar 4) (dCB (g1 len1) (aCons (dVar 1) (aNil)))) (aNil)) (aCons (dCB (g1 len1) (aCons (dVar 1) (aNil))) (aNil)))) (sSeq (sAsg (dTup (aNil)) (gNm 5)) (sSeq (sFor (iNumD (aCons (dSl (dVar 1) (some (dVar 4)) none) (aCons (dVar 4) (aNil)))) (gSeq 2 (gsCons (gNm 6) (gsCons (gNm 7) (gsNil)))) (sSeq (dAug 5 iaddV (dTup (aCons (dCall F_bound_by 1 [] (aCons (dVar 7) (aNil))) (aNil)))) (sExpr (dCallK F_need 1 1 2 (· ++ ·) (aCons (dAnd (dOp isNotV2 (dOp ixV (dVar 5) (negV (dC (.int 1)))) (dC .non)) (dCall F_are_bounds 1 [] (aCons (dVar 5) (aNil)))) (aNil)) (aCons (dVar 6) (aNil)))))) (sSeq (sExpr (dCallK F_need 1 1 2 (· ++ ·) (aCons (dOp eqV' (dVar 2) (dC (.str ""))) (aNil)) (aCons (dCB (g1 len1) (aCons (dVar 1) (aNil))) (aNil)))) (sRet (dTup (aCons (dVar 3) (aCons (dVar 5) (aNil)))))))))))))
noncomputable def F_read_book : Fn := body 8 d_read_book
theorem z_read_book : FnScope ["text", "lines", "rest", "wishes", "begin", "bounds", "at", "line"] ["text"] (defScope (top 36)) := ⟨rfl, rfl, rfl, by decide +kernel, rfl, by decide +kernel, by decide +kernel⟩
theorem g_read_book (D : FunD K "read_book" "read_book" (defArgs (top 36)) (defBody (top 36)) (defScope (top 36)) [] [] f fd) (c_need_text : Cal P w K mg base "need_text" 1 ["thing"] [] F_need_text) (c_lines_of : Cal P w K mg base "lines_of" 1 ["text"] [] F_lines_of) (c_needd : Cal P w K mg base "need" 1 ["is_right", "line"] [.int 0] F_need) (c_wishes_until : Cal P w K mg base "wishes_until" 5 ["lines", "word"] [] F_wishes_until) (q_len : mg "len" = none) (ck_need : CalK P w K mg base "need" 1 ["is_right", "line"] 1 ["line"] (· ++ ·) F_need) (q_enumerate : mg "enumerate" = none) (c_bound_by : Cal P w K mg base "bound_by" 4 ["text"] [] F_bound_by) (c_are_bounds : Cal P w K mg base "are_bounds" 4 ["thing"] [] F_are_bounds) : GnOk P w K mg base 6 f fd ["text"] F_read_book := gn_of D z_read_book fun cdv B outer st G E hg hr => by
  have R : Rdy (cxOf (L2.CX P w) P w K mg base ["text", "lines", "rest", "wishes", "begin", "bounds", "at", "line"] "read_book" (defScope (top 36)) f cdv B outer st G E) (fun c d _ H => E c d H) 5 := ⟨takes_of rfl rfl rfl rfl, hg, hr⟩
  exact bv_cons (sv_expr (ev_cal c_need_text R (av_cons (ev_var (i := 0)) (av_nil)))) (bv_cons (sv_asg (ev_cal c_lines_of R (av_cons (ev_var (i := 0)) (av_nil))) (gv_seq (n := 2) rfl (gsv_cons (gv_name (i := 1) z_read_book.nd) (gsv_cons (gv_name (i := 2) z_read_book.nd) (gsv_nil))))) (bv_cons (sv_expr (ev_cal c_needd R (av_cons (ev_c (c_eq R) (ev_sl (ev_var (i := 1)) ov_none (ov_some (ev_int))) (ev_lst (av_cons (ev_str) (av_nil)))) (av_nil)))) (bv_cons (sv_set (i := 3) (ev_cal c_wishes_until R (av_cons (ev_var (i := 1)) (av_cons (ev_str) (av_nil)))) z_read_book.nd) (bv_cons (sv_set (i := 4) (ev_add (evG_cb b_len q_len bf_len (av_cons (ev_var (i := 3)) (av_nil))) (ev_int)) z_read_book.nd) (bv_cons (sv_expr (ev_calK ck_need R (av_cons (ev_c (c_le R) (ev_var (i := 4)) (evG_cb b_len q_len bf_len (av_cons (ev_var (i := 1)) (av_nil)))) (av_nil)) (kv_cons (evG_cb b_len q_len bf_len (av_cons (ev_var (i := 1)) (av_nil))) (kv_nil)))) (bv_cons (sv_set (i := 5) (ev_tup (av_nil)) z_read_book.nd) (bv_cons (sv_for (passes_of rfl) rfl (iv_num rfl q_enumerate (av_cons (ev_sl (ev_var (i := 1)) (ov_some (ev_var (i := 4))) ov_none) (av_cons (ev_var (i := 4)) (av_nil)))) (gv_seq (n := 2) rfl (gsv_cons (gv_name (i := 6) z_read_book.nd) (gsv_cons (gv_name (i := 7) z_read_book.nd) (gsv_nil)))) (bv_cons (sv_iadd (i := 5) z_read_book.nd (ev_tup (av_cons (ev_cal c_bound_by R (av_cons (ev_var (i := 7)) (av_nil))) (av_nil)))) (bv_one (sv_expr (ev_calK ck_need R (av_cons (ev_and (ev_c (c_isNot R) (ev_ix R (ev_var (i := 5)) (ev_neg (ev_int))) (ev_non)) (ev_one (ev_cal c_are_bounds R (av_cons (ev_var (i := 5)) (av_nil))))) (av_nil)) (kv_cons (ev_var (i := 6)) (kv_nil))))))) (bv_cons (sv_expr (ev_calK ck_need R (av_cons (ev_c (c_eq R) (ev_var (i := 2)) (ev_str)) (av_nil)) (kv_cons (evG_cb b_len q_len bf_len (av_cons (ev_var (i := 1)) (av_nil))) (kv_nil)))) (bv_one (sv_ret (ev_tup (av_cons (ev_var (i := 3)) (av_cons (ev_var (i := 5)) (av_nil))))))))))))))
noncomputable def d__law_wish_text : DS := sSeq (sAsg (dOp addV (dOp addV (dOp ixV (dVar 0) (dC (.int 0))) (dC (.str " "))) (dMt "str" joinV (dC (.str ",")) (aCons (dLc (iSeq (dOp ixV (dVar 0) (dC (.int 1)))) [2] (gNm 2) (tYesD) (dCB (g1 str1) (aCons (dVar 2) (aNil)))) (aNil)))) (gNm 1)) (sSeq (sIf (asT (dOp ixV (dVar 0) (dC (.int 2)))) (sAsg (dOp addV (dVar 1) (dC (.str " must"))) (gNm 1)) (sNext)) (sSeq (sIf (asT (dOp isNotV2 (dOp ixV (dVar 0) (dC (.int 3))) (dC .non))) (sAsg (dOp addV (dOp addV (dOp addV (dOp addV (dVar 1) (dC (.str " if "))) (dOp ixV (dOp ixV (dVar 0) (dC (.int 3))) (dC (.int 0)))) (dC (.str " "))) (dCB (g1 str1) (aCons (dOp ixV (dOp ixV (dVar 0) (dC (.int 3))) (dC (.int 1))) (aNil)))) (gNm 1)) (sNext)) (sRet (dVar 1))))
noncomputable def F__law_wish_text : Fn := body 3 d__law_wish_text
theorem z__law_wish_text : FnScope ["_law_wish", "_law_text", "_law_worth"] ["_law_wish"] (defScope (top 47)) := ⟨rfl, rfl, rfl, by decide +kernel, rfl, by decide +kernel, by decide +kernel⟩
theorem g__law_wish_text (D : FunD K "_law_wish_text" "_law_wish_text" (defArgs (top 47)) (defBody (top 47)) (defScope (top 47)) [] [] f fd) (q_str : mg "str" = none) : GnOk P w K mg base 1 f fd ["_law_wish"] F__law_wish_text := gn_of D z__law_wish_text fun cdv B outer st G E hg hr => by
  have R : Rdy (cxOf (L2.CX P w) P w K mg base ["_law_wish", "_law_text", "_law_worth"] "_law_wish_text" (defScope (top 47)) f cdv B outer st G E) (fun c d _ H => E c d H) 0 := ⟨takes_of rfl rfl rfl rfl, hg, hr⟩
  exact bv_cons (sv_set (i := 1) (ev_add (ev_add (ev_ix R (ev_var (i := 0)) (ev_int)) (ev_str)) (ev_join (ev_str) (av_cons (ev_lc (own := [("_law_worth", 2)]) rfl z__law_wish_text.nd (iv_seq (ev_ix R (ev_var (i := 0)) (ev_int))) (blkOk_by (N := ["_law_wish", "_law_text", "_law_worth"]) (sc := defScope (top 47)) (by decide +kernel)) (fun s H C cl fp => gv_name (i := 2) z__law_wish_text.nd) (fun s H C cl fp => tsv_nil) (fun s H C cl fp => evG_cty b_str q_str bt_str (av_cons (ev_var (i := 2)) (av_nil)))) (av_nil)))) z__law_wish_text.nd) (bv_cons (sv_if (tv_val (ev_ix R (ev_var (i := 0)) (ev_int))) (bv_one (sv_set (i := 1) (ev_add (ev_var (i := 1)) (ev_str)) z__law_wish_text.nd)) (bv_nil)) (bv_cons (sv_if (tv_c (c_isNot R) (ev_ix R (ev_var (i := 0)) (ev_int)) (ev_non)) (bv_one (sv_set (i := 1) (ev_add (ev_add (ev_add (ev_add (ev_var (i := 1)) (ev_str)) (ev_ix R (ev_ix R (ev_var (i := 0)) (ev_int)) (ev_int))) (ev_str)) (evG_cty b_str q_str bt_str (av_cons (ev_ix R (ev_ix R (ev_var (i := 0)) (ev_int)) (ev_int)) (av_nil)))) z__law_wish_text.nd)) (bv_nil)) (bv_one (sv_ret (ev_var (i := 1))))))
noncomputable def d__law_book_lines : DS := sSeq (sAsg (dLstO (aCons (dC (.str "wishes")) (aNil))) (gNm 1)) (sSeq (sFor (iSeq (dOp ixV (dVar 0) (dC (.int 0)))) (gNm 2) (sExpr (dMt "list" appendV (dVar 1) (aCons (dCall F__law_wish_text 1 [] (aCons (dVar 2) (aNil))) (aNil))))) (sSeq (sExpr (dMt "list" appendV (dVar 1) (aCons (dC (.str "bounds")) (aNil)))) (sSeq (sFor (iSeq (dOp ixV (dVar 0) (dC (.int 1)))) (gSeq 2 (gsCons (gNm 3) (gsCons (gNm 4) (gsNil)))) (sExpr (dMt "list" appendV (dVar 1) (aCons (dOp addV (dOp addV (dVar 3) (dC (.str " "))) (dMt "str" joinV (dC (.str ",")) (aCons (dLc (iSeq (dVar 4)) [5] (gNm 5) (tYesD) (dCB (g1 str1) (aCons (dVar 5) (aNil)))) (aNil)))) (aNil))))) (sRet (dVar 1)))))
noncomputable def F__law_book_lines : Fn := cutF (body 6 d__law_book_lines)
theorem z__law_book_lines : FnScope ["_law_book", "_law_found", "_law_wish", "_law_kind", "_law_worths_here", "_law_worth"] ["_law_book"] (defScope (top 48)) := ⟨rfl, rfl, rfl, by decide +kernel, rfl, by decide +kernel, by decide +kernel⟩
theorem g__law_book_lines (D : FunD K "_law_book_lines" "_law_book_lines" (defArgs (top 48)) (defBody (top 48)) (defScope (top 48)) [] [] f fd) (c__law_wish_text : Cal P w K mg base "_law_wish_text" 1 ["_law_wish"] [] F__law_wish_text) (q_str : mg "str" = none) : GnOk P w K mg base 2 f fd ["_law_book"] F__law_book_lines := GnOk.cut <| gn_of D z__law_book_lines fun cdv B outer st G E hg hr => by
  have R : Rdy (cxOf (L2.CX P w) P w K mg base ["_law_book", "_law_found", "_law_wish", "_law_kind", "_law_worths_here", "_law_worth"] "_law_book_lines" (defScope (top 48)) f cdv B outer st G E) (fun c d _ H => E c d H) 1 := ⟨takes_of rfl rfl rfl rfl, hg, hr⟩
  exact bv_cons (sv_set (i := 1) (ev_lstO (av_cons (ev_str) (av_nil))) z__law_book_lines.nd) (bv_cons (sv_for (passes_of rfl) rfl (iv_seq (ev_ix R (ev_var (i := 0)) (ev_int))) (gv_name (i := 2) z__law_book_lines.nd) (bv_one (sv_expr (ev_append (ev_var (i := 1)) (av_cons (ev_cal c__law_wish_text R (av_cons (ev_var (i := 2)) (av_nil))) (av_nil)))))) (bv_cons (sv_expr (ev_append (ev_var (i := 1)) (av_cons (ev_str) (av_nil)))) (bv_cons (sv_for (passes_of rfl) rfl (iv_seq (ev_ix R (ev_var (i := 0)) (ev_int))) (gv_seq (n := 2) rfl (gsv_cons (gv_name (i := 3) z__law_book_lines.nd) (gsv_cons (gv_name (i := 4) z__law_book_lines.nd) (gsv_nil)))) (bv_one (sv_expr (ev_append (ev_var (i := 1)) (av_cons (ev_add (ev_add (ev_var (i := 3)) (ev_str)) (ev_join (ev_str) (av_cons (ev_lc (own := [("_law_worth", 5)]) rfl z__law_book_lines.nd (iv_seq (ev_var (i := 4))) (blkOk_by (N := ["_law_book", "_law_found", "_law_wish", "_law_kind", "_law_worths_here", "_law_worth"]) (sc := defScope (top 48)) (by decide +kernel)) (fun s H C cl fp => gv_name (i := 5) z__law_book_lines.nd) (fun s H C cl fp => tsv_nil) (fun s H C cl fp => evG_cty b_str q_str bt_str (av_cons (ev_var (i := 5)) (av_nil)))) (av_nil)))) (av_nil)))))) (bv_one (sv_ret (ev_var (i := 1)))))))
noncomputable def d_ended : DS := sRet (dMt "str" joinV (dC (.str "")) (aCons (dLc (iSeq (dVar 0)) [1] (gNm 1) (tYesD) (dOp addV (dVar 1) (dC (.str "\n")))) (aNil)))
noncomputable def F_ended : Fn := body 2 d_ended
theorem z_ended : FnScope ["lines", "line"] ["lines"] (defScope (top 4)) := ⟨rfl, rfl, rfl, by decide +kernel, rfl, by decide +kernel, by decide +kernel⟩
theorem g_ended (D : FunD K "ended" "ended" (defArgs (top 4)) (defBody (top 4)) (defScope (top 4)) [] [] f fd) : GnOk P w K mg base 1 f fd ["lines"] F_ended := gn_of D z_ended fun cdv B outer st G E hg hr => by
  have R : Rdy (cxOf (L2.CX P w) P w K mg base ["lines", "line"] "ended" (defScope (top 4)) f cdv B outer st G E) (fun c d _ H => E c d H) 0 := ⟨takes_of rfl rfl rfl rfl, hg, hr⟩
  exact bv_one (sv_ret (ev_join (ev_str) (av_cons (ev_lc (own := [("line", 1)]) rfl z_ended.nd (iv_seq (ev_var (i := 0))) (blkOk_by (N := ["lines", "line"]) (sc := defScope (top 4)) (by decide +kernel)) (fun s H C cl fp => gv_name (i := 1) z_ended.nd) (fun s H C cl fp => tsv_nil) (fun s H C cl fp => ev_add (ev_var (i := 1)) (ev_str))) (av_nil))))
noncomputable def d_show_worths : DS := sRet (dMt "str" joinV (dC (.str ",")) (aCons (dLc (iSeq (dVar 0)) [1] (gNm 1) (tYesD) (dCB (g1 str1) (aCons (dVar 1) (aNil)))) (aNil)))
noncomputable def F_show_worths : Fn := body 2 d_show_worths
theorem z_show_worths : FnScope ["worths", "worth"] ["worths"] (defScope (top 1)) := ⟨rfl, rfl, rfl, by decide +kernel, rfl, by decide +kernel, by decide +kernel⟩
theorem g_show_worths (D : FunD K "show_worths" "show_worths" (defArgs (top 1)) (defBody (top 1)) (defScope (top 1)) [] [] f fd) (q_str : mg "str" = none) : GnOk P w K mg base 1 f fd ["worths"] F_show_worths := gn_of D z_show_worths fun cdv B outer st G E hg hr => by
  have R : Rdy (cxOf (L2.CX P w) P w K mg base ["worths", "worth"] "show_worths" (defScope (top 1)) f cdv B outer st G E) (fun c d _ H => E c d H) 0 := ⟨takes_of rfl rfl rfl rfl, hg, hr⟩
  exact bv_one (sv_ret (ev_join (ev_str) (av_cons (ev_lc (own := [("worth", 1)]) rfl z_show_worths.nd (iv_seq (ev_var (i := 0))) (blkOk_by (N := ["worths", "worth"]) (sc := defScope (top 1)) (by decide +kernel)) (fun s H C cl fp => gv_name (i := 1) z_show_worths.nd) (fun s H C cl fp => tsv_nil) (fun s H C cl fp => evG_cty b_str q_str bt_str (av_cons (ev_var (i := 1)) (av_nil)))) (av_nil))))
noncomputable def d_show_wish : DS := sSeq (sAsg (dVar 0) (gSeq 4 (gsCons (gNm 1) (gsCons (gNm 2) (gsCons (gNm 3) (gsCons (gNm 4) (gsNil))))))) (sSeq (sAsg (dOp addVO (dLst (aCons (dVar 1) (aCons (dCall F_show_worths 1 [] (aCons (dVar 2) (aNil))) (aNil)))) (dOp mulV (dLst (aCons (dC (.str "must")) (aNil))) (dCB (g1 int1) (aCons (dVar 3) (aNil))))) (gNm 5)) (sSeq (sIf (asT (dOp isNotV2 (dVar 4) (dC .non))) (dAug 5 iaddV (dLst (aCons (dC (.str "if")) (aCons (dOp ixV (dVar 4) (dC (.int 0))) (aCons (dCB (g1 str1) (aCons (dOp ixV (dVar 4) (dC (.int 1))) (aNil))) (aNil)))))) (sNext)) (sRet (dMt "str" joinV (dC (.str " ")) (aCons (dVar 5) (aNil))))))
noncomputable def F_show_wish : Fn := cutF (body 6 d_show_wish)
theorem z_show_wish : FnScope ["wish", "kind", "worths", "must", "needs", "words"] ["wish"] (defScope (top 2)) := ⟨rfl, rfl, rfl, by decide +kernel, rfl, by decide +kernel, by decide +kernel⟩
theorem g_show_wish (D : FunD K "show_wish" "show_wish" (defArgs (top 2)) (defBody (top 2)) (defScope (top 2)) [] [] f fd) (c_show_worths : Cal P w K mg base "show_worths" 1 ["worths"] [] F_show_worths) (q_int : mg "int" = none) (q_str : mg "str" = none) : GnOk P w K mg base 2 f fd ["wish"] F_show_wish := GnOk.cut <| gn_of D z_show_wish fun cdv B outer st G E hg hr => by
  have R : Rdy (cxOf (L2.CX P w) P w K mg base ["wish", "kind", "worths", "must", "needs", "words"] "show_wish" (defScope (top 2)) f cdv B outer st G E) (fun c d _ H => E c d H) 1 := ⟨takes_of rfl rfl rfl rfl, hg, hr⟩
  exact bv_cons (sv_asg (ev_var (i := 0)) (gv_seq (n := 4) rfl (gsv_cons (gv_name (i := 1) z_show_wish.nd) (gsv_cons (gv_name (i := 2) z_show_wish.nd) (gsv_cons (gv_name (i := 3) z_show_wish.nd) (gsv_cons (gv_name (i := 4) z_show_wish.nd) (gsv_nil))))))) (bv_cons (sv_set (i := 5) (ev_addO (ev_lst (av_cons (ev_var (i := 1)) (av_cons (ev_cal c_show_worths R (av_cons (ev_var (i := 2)) (av_nil))) (av_nil)))) (ev_mul (ev_lst (av_cons (ev_str) (av_nil))) (evG_cty b_int q_int bt_int (av_cons (ev_var (i := 3)) (av_nil))))) z_show_wish.nd) (bv_cons (sv_if (tv_c (c_isNot R) (ev_var (i := 4)) (ev_non)) (bv_one (sv_iadd (i := 5) z_show_wish.nd (ev_lst (av_cons (ev_str) (av_cons (ev_ix R (ev_var (i := 4)) (ev_int)) (av_cons (evG_cty b_str q_str bt_str (av_cons (ev_ix R (ev_var (i := 4)) (ev_int)) (av_nil))) (av_nil))))))) (bv_nil)) (bv_one (sv_ret (ev_join (ev_str) (av_cons (ev_var (i := 5)) (av_nil)))))))
noncomputable def d_show_book : DS := sSeq (sAsg (dVar 0) (gSeq 2 (gsCons (gNm 1) (gsCons (gNm 2) (gsNil))))) (sSeq (sAsg (dOp addV (dOp addV (dLst (aCons (dC (.str "wishes")) (aNil))) (dLc (iSeq (dVar 1)) [4] (gNm 4) (tYesD) (dCall F_show_wish 1 [] (aCons (dVar 4) (aNil))))) (dLst (aCons (dC (.str "bounds")) (aNil)))) (gNm 3)) (sRet (dCall F_ended 1 [] (aCons (dOp addV (dVar 3) (dLc (iSeq (dVar 2)) [5, 6] (gSeq 2 (gsCons (gNm 5) (gsCons (gNm 6) (gsNil)))) (tYesD) (dOp addV (dOp addV (dVar 5) (dC (.str " "))) (dCall F_show_worths 1 [] (aCons (dVar 6) (aNil)))))) (aNil)))))
noncomputable def F_show_book : Fn := body 7 d_show_book
theorem z_show_book : FnScope ["book", "wishes", "bounds", "lines", "wish", "kind", "worths"] ["book"] (defScope (top 3)) := ⟨rfl, rfl, rfl, by decide +kernel, rfl, by decide +kernel, by decide +kernel⟩
theorem g_show_book (D : FunD K "show_book" "show_book" (defArgs (top 3)) (defBody (top 3)) (defScope (top 3)) [] [] f fd) (c_show_wish : Cal P w K mg base "show_wish" 2 ["wish"] [] F_show_wish) (c_show_worths : Cal P w K mg base "show_worths" 1 ["worths"] [] F_show_worths) (c_ended : Cal P w K mg base "ended" 1 ["lines"] [] F_ended) : GnOk P w K mg base 3 f fd ["book"] F_show_book := gn_of D z_show_book fun cdv B outer st G E hg hr => by
  have R : Rdy (cxOf (L2.CX P w) P w K mg base ["book", "wishes", "bounds", "lines", "wish", "kind", "worths"] "show_book" (defScope (top 3)) f cdv B outer st G E) (fun c d _ H => E c d H) 2 := ⟨takes_of rfl rfl rfl rfl, hg, hr⟩
  exact bv_cons (sv_asg (ev_var (i := 0)) (gv_seq (n := 2) rfl (gsv_cons (gv_name (i := 1) z_show_book.nd) (gsv_cons (gv_name (i := 2) z_show_book.nd) (gsv_nil))))) (bv_cons (sv_set (i := 3) (ev_add (ev_add (ev_lst (av_cons (ev_str) (av_nil))) (ev_lc (own := [("wish", 4)]) rfl z_show_book.nd (iv_seq (ev_var (i := 1))) (blkOk_by (N := ["book", "wishes", "bounds", "lines", "wish", "kind", "worths"]) (sc := defScope (top 3)) (by decide +kernel)) (fun s H C cl fp => gv_name (i := 4) z_show_book.nd) (fun s H C cl fp => tsv_nil) (fun s H C cl fp => ev_cal c_show_wish (Rdy.blk R) (av_cons (ev_var (i := 4)) (av_nil))))) (ev_lst (av_cons (ev_str) (av_nil)))) z_show_book.nd) (bv_one (sv_ret (ev_cal c_ended R (av_cons (ev_add (ev_var (i := 3)) (ev_lc (own := [("kind", 5), ("worths", 6)]) rfl z_show_book.nd (iv_seq (ev_var (i := 2))) (blkOk_by (N := ["book", "wishes", "bounds", "lines", "wish", "kind", "worths"]) (sc := defScope (top 3)) (by decide +kernel)) (fun s H C cl fp => gv_seq (n := 2) rfl (gsv_cons (gv_name (i := 5) z_show_book.nd) (gsv_cons (gv_name (i := 6) z_show_book.nd) (gsv_nil)))) (fun s H C cl fp => tsv_nil) (fun s H C cl fp => ev_add (ev_add (ev_var (i := 5)) (ev_str)) (ev_cal c_show_worths (Rdy.blk R) (av_cons (ev_var (i := 6)) (av_nil)))))) (av_nil))))))
noncomputable def d_is_book : DS := sRet (dAnd (dCall F_is_tuple 3 [] (aCons (dVar 0) (aCons (dC (.int 2)) (aCons (dC (.int 2)) (aNil))))) (dAnd (dCall F_are_wishes 1 [] (aCons (dOp ixV (dVar 0) (dC (.int 0))) (aNil))) (dCall F_are_bounds 1 [] (aCons (dOp ixV (dVar 0) (dC (.int 1))) (aNil)))))
noncomputable def F_is_book : Fn := body 1 d_is_book
theorem z_is_book : FnScope ["thing"] ["thing"] (defScope (top 24)) := ⟨rfl, rfl, rfl, by decide +kernel, rfl, by decide +kernel, by decide +kernel⟩
theorem g_is_book (D : FunD K "is_book" "is_book" (defArgs (top 24)) (defBody (top 24)) (defScope (top 24)) [] [] f fd) (c_is_tuple : Cal P w K mg base "is_tuple" 1 ["thing", "least", "most"] [] F_is_tuple) (c_are_wishes : Cal P w K mg base "are_wishes" 4 ["thing"] [] F_are_wishes) (c_are_bounds : Cal P w K mg base "are_bounds" 4 ["thing"] [] F_are_bounds) : GnOk P w K mg base 5 f fd ["thing"] F_is_book := gn_of D z_is_book fun cdv B outer st G E hg hr => by
  have R : Rdy (cxOf (L2.CX P w) P w K mg base ["thing"] "is_book" (defScope (top 24)) f cdv B outer st G E) (fun c d _ H => E c d H) 4 := ⟨takes_of rfl rfl rfl rfl, hg, hr⟩
  exact bv_one (sv_ret (ev_and (ev_cal c_is_tuple R (av_cons (ev_var (i := 0)) (av_cons (ev_int) (av_cons (ev_int) (av_nil))))) (ev_and (ev_cal c_are_wishes R (av_cons (ev_ix R (ev_var (i := 0)) (ev_int)) (av_nil))) (ev_one (ev_cal c_are_bounds R (av_cons (ev_ix R (ev_var (i := 0)) (ev_int)) (av_nil)))))))
noncomputable def d_law : DS := sSeq (sAsg (dCall F__law_pen 1 [] (aCons (dVar 0) (aNil))) (gNm 1)) (sSeq (sFor (iRg1 (aCons (dC (.int 8)) (aNil))) (gNm 2) (sSeq (sAsg (dCall F__law_any_book 1 [] (aCons (dVar 1) (aNil))) (gNm 3)) (sSeq (sAsg (dCB (g1 reprV) (aCons (dVar 3) (aNil))) (gNm 4)) (sSeq (sAsg (dCall F__law_with_ends 1 [] (aCons (dCall F__law_book_lines 1 [] (aCons (dVar 3) (aNil))) (aNil))) (gNm 5)) (sSeq (sFor (iRg1 (aCons (dC (.int 2)) (aNil))) (gNm 6) (sSeq (sAsg (dCall F_show_book 1 [] (aCons (dVar 3) (aNil))) (gNm 7)) (sIf (tOrD (tNotD (asT (dCB (g2 isiV) (aCons (dVar 7) (aCons (dC (.ty "str")) (aNil)))))) (tOrD (asT (dOp neV' (dVar 7) (dVar 5))) (tOrD (asT (dOp neV' (dCB (g1 reprV) (aCons (dCall F_read_book 1 [] (aCons (dVar 5) (aNil))) (aNil))) (dVar 4))) (asT (dOp neV' (dCB (g1 reprV) (aCons (dVar 3) (aNil))) (dVar 4)))))) (sRet (dC (.bl false))) (sNext)))) (sIf (asT (dOp isNotV2 (dCall F_is_book 1 [] (aCons (dVar 3) (aNil))) (dC (.bl true)))) (sRet (dC (.bl false))) (sNext))))))) (sSeq (sAsg (dC (.str "wishes\nk 1,0 must\nl 3 if k 1\nbounds\n")) (gNm 8)) (sRet (dOp eqV' (dCall F_read_book 1 [] (aCons (dVar 8) (aNil))) (dTup (aCons (dTup (aCons (dTup (aCons (dC (.str "k")) (aCons (dTup (aCons (dC (.int 1)) (aCons (dC (.int 0)) (aNil)))) (aCons (dC (.bl true)) (aCons (dC .non) (aNil)))))) (aCons (dTup (aCons (dC (.str "l")) (aCons (dTup (aCons (dC (.int 3)) (aNil))) (aCons (dC (.bl false)) (aCons (dTup (aCons (dC (.str "k")) (aCons (dC (.int 1)) (aNil)))) (aNil)))))) (aNil)))) (aCons (dTup (aNil)) (aNil))))))))
noncomputable def F_law : Fn := body 9 d_law
theorem z_law : FnScope ["_law_script", "_law_pen_here", "_law_turn", "_law_book", "_law_kept", "_law_due", "_law_again", "_law_found", "_law_plain"] ["_law_script"] (defScope (top 50)) := ⟨rfl, rfl, rfl, by decide +kernel, rfl, by decide +kernel, by decide +kernel⟩
theorem g_law (D : FunD K "law" "law" (defArgs (top 50)) (defBody (top 50)) (defScope (top 50)) [] [] f fd) (c__law_pen : Cal P w K mg base "_law_pen" 1 ["_law_script"] [] F__law_pen) (q_range : mg "range" = none) (c__law_any_book : Cal P w K mg base "_law_any_book" 5 ["_law_pen_here"] [] F__law_any_book) (q_repr : mg "repr" = none) (c__law_book_lines : Cal P w K mg base "_law_book_lines" 2 ["_law_book"] [] F__law_book_lines) (c__law_with_ends : Cal P w K mg base "_law_with_ends" 1 ["_law_lines"] [] F__law_with_ends) (c_show_book : Cal P w K mg base "show_book" 3 ["book"] [] F_show_book) (q_str : mg "str" = none) (q_isinstance : mg "isinstance" = none) (c_read_book : Cal P w K mg base "read_book" 6 ["text"] [] F_read_book) (c_is_book : Cal P w K mg base "is_book" 5 ["thing"] [] F_is_book) : GnOk P w K mg base 7 f fd ["_law_script"] F_law := gn_of D z_law fun cdv B outer st G E hg hr => by
  have R : Rdy (cxOf (L2.CX P w) P w K mg base ["_law_script", "_law_pen_here", "_law_turn", "_law_book", "_law_kept", "_law_due", "_law_again", "_law_found", "_law_plain"] "law" (defScope (top 50)) f cdv B outer st G E) (fun c d _ H => E c d H) 6 := ⟨takes_of rfl rfl rfl rfl, hg, hr⟩
  exact bv_cons (sv_set (i := 1) (ev_cal c__law_pen R (av_cons (ev_var (i := 0)) (av_nil))) z_law.nd) (bv_cons (sv_for (passes_of rfl) rfl (iv_rng1 rfl q_range (av_cons (ev_int) (av_nil))) (gv_name (i := 2) z_law.nd) (bv_cons (sv_set (i := 3) (ev_cal c__law_any_book R (av_cons (ev_var (i := 1)) (av_nil))) z_law.nd) (bv_cons (sv_set (i := 4) (evG_cb (b_repr R) q_repr bf_repr (av_cons (ev_var (i := 3)) (av_nil))) z_law.nd) (bv_cons (sv_set (i := 5) (ev_cal c__law_with_ends R (av_cons (ev_cal c__law_book_lines R (av_cons (ev_var (i := 3)) (av_nil))) (av_nil))) z_law.nd) (bv_cons (sv_for (passes_of rfl) rfl (iv_rng1 rfl q_range (av_cons (ev_int) (av_nil))) (gv_name (i := 6) z_law.nd) (bv_cons (sv_set (i := 7) (ev_cal c_show_book R (av_cons (ev_var (i := 3)) (av_nil))) z_law.nd) (bv_one (sv_if ((wv_or (tv_not (tv_val (evG_cb b_isi q_isinstance bf_isinstance (av_cons (ev_var (i := 7)) (av_cons (evG_ty q_str bt_str) (av_nil)))))) (wv_or (tv_c (c_ne R) (ev_var (i := 7)) (ev_var (i := 5))) (wv_or (tv_c (c_ne R) (evG_cb (b_repr R) q_repr bf_repr (av_cons (ev_cal c_read_book R (av_cons (ev_var (i := 5)) (av_nil))) (av_nil))) (ev_var (i := 4))) (wv_or1 (tv_c (c_ne R) (evG_cb (b_repr R) q_repr bf_repr (av_cons (ev_var (i := 3)) (av_nil))) (ev_var (i := 4))))))).tv) (bv_one (sv_ret (ev_bl))) (bv_nil))))) (bv_one (sv_if (tv_c (c_isNot R) (ev_cal c_is_book R (av_cons (ev_var (i := 3)) (av_nil))) (ev_bl)) (bv_one (sv_ret (ev_bl))) (bv_nil)))))))) (bv_cons (sv_set (i := 8) (ev_str) z_law.nd) (bv_one (sv_ret (ev_c (c_eq R) (ev_cal c_read_book R (av_cons (ev_var (i := 8)) (av_nil))) (ev_tup (av_cons (ev_tup (av_cons (ev_tup (av_cons (ev_str) (av_cons (ev_tup (av_cons (ev_int) (av_cons (ev_int) (av_nil)))) (av_cons (ev_bl) (av_cons (ev_non) (av_nil)))))) (av_cons (ev_tup (av_cons (ev_str) (av_cons (ev_tup (av_cons (ev_int) (av_nil))) (av_cons (ev_bl) (av_cons (ev_tup (av_cons (ev_str) (av_cons (ev_int) (av_nil)))) (av_nil)))))) (av_nil)))) (av_cons (ev_tup (av_nil)) (av_nil)))))))))
end
end Cw

set_option maxRecDepth 100000
set_option maxHeartbeats 2000000
set_option linter.all false
/-! k76: what is drawn. -/
namespace Cw
open PySem PySem.Spec PyProof.Rows L2
theorem draw {S : Sto} {cs : List Int} {a l m : Int} (hS : S[0]? = some (pen cs a l)) (ha : 0 ≤ a ∧ a ≤ 1048576) (hl : 0 ≤ l) (hm : 0 < m ∧ m ≤ 1048576) :
    ∃ d a' l', F__law_draw [.ref 0, .int m] S = some (.ok (.int d) (S.set 0 (pen cs a' l'))) ∧ 0 ≤ d ∧ d < m ∧ a ≤ a' ∧ a' ≤ a + 1 ∧ 0 ≤ l' := by
  have hm2 : 0 < m ∧ m < 1073741824 := ⟨hm.1, by omega⟩
  by_cases h0 : 0 < l
  · refine ⟨l % m, a, l / m, ?_, Int.emod_nonneg _ (by omega), Int.emod_lt_of_pos _ hm.1, Int.le_refl _, by omega, Int.ediv_nonneg hl (by omega)⟩
    simp [F__law_draw, d__law_draw, body, g1, g2, ix_left hS, set_left hS, h0, mod_ii hm.1, div_ii hm2]
  · have hl0 : l = 0 := by omega
    subst hl0
    have hS1 := at_set hS (pen cs (a + 1) 0)
    have m1 : ∀ S, mulV (.int 1951) (.int a) S = some (.int (1951 * a), S) := fun S => mul_ii (.inl (by decide))
    have m2 : ∀ S, mulV (.int 70997) (.int a) S = some (.int (70997 * a), S) := fun S => mul_ii (.inl (by decide))
    have m3 : ∀ S, mulV (.int 85009) (.int a) S = some (.int (85009 * a), S) := fun S => mul_ii (.inl (by decide))
    have m4 : ∀ S, mulV (.int (85009 * a)) (.int a) S = some (.int (85009 * a * a), S) := fun S => mul_ii (.inr (by unfold midI; omega))
    have m5 : ∀ (x : Int) S, mulV (.int x) (.int (a + 65539)) S = some (.int (x * (a + 65539)), S) := fun x S => mul_ii (.inr (by unfold midI; omega))
    have m6 : ∀ (x : Int) S, mulV (.int 2) (.int x) S = some (.int (2 * x), S) := fun x S => mul_ii (.inl (by decide))
    have p1 : ∀ (x : Int) S, 0 ≤ x → x < 2147483563 → powV (.int (x + 70997 * a + 79)) (.int 5) S = some (.int ((x + 70997 * a + 79) ^ 5), S) := fun x S h1 h2 => pow_ii ⟨by decide, by decide, by omega⟩
    have p2 : ∀ (x : Int) S, 0 ≤ x → x < 2147483647 → powV (.int (x * (a + 65539) + 85009 * a * a)) (.int 3) S = some (.int ((x * (a + 65539) + 85009 * a * a) ^ 3), S) := fun x S h1 h2 => pow_ii ⟨by decide, by decide, by
      have z1 : x * (a + 65539) ≤ 2147483647 * 1114115 := Int.mul_le_mul (by omega) (by omega) (by omega) (by omega)
      have z2 : 0 ≤ x * (a + 65539) := Int.mul_nonneg h1 (by omega)
      have z3 : 85009 * a * a ≤ 85009 * 1048576 * 1048576 := Int.mul_le_mul (by omega) (by omega) (by omega) (by omega)
      have z4 : 0 ≤ 85009 * a * a := Int.mul_nonneg (by omega) (by omega)
      omega⟩
    have p3 : ∀ S, powV (.int 10) (.int 18) S = some (.int (10 ^ 18), S) := fun S => pow_ii (by decide)
    have q1 : ∀ (x : Int) S, modV (.int x) (.int 2147483563) S = some (.int (x % 2147483563), S) := fun x S => mod_ii (by decide)
    have q2 : ∀ (x : Int) S, modV (.int x) (.int 2147483647) S = some (.int (x % 2147483647), S) := fun x S => mod_ii (by decide)
    have q3 : ∀ (x : Int) S, modV (.int x) (.int 2147483399) S = some (.int (x % 2147483399), S) := fun x S => mod_ii (by decide)
    have q4 : ∀ (x : Int) S, divV (.int x) (.int 32) S = some (.int (x / 32), S) := fun x S => div_ii (by decide)
    have r1 : ∀ x : Int, 0 ≤ x % 2147483563 ∧ x % 2147483563 < 2147483563 := fun x => ⟨Int.emod_nonneg _ (by decide), Int.emod_lt_of_pos _ (by decide)⟩
    have r2 : ∀ x : Int, 0 ≤ x % 2147483647 ∧ x % 2147483647 < 2147483647 := fun x => ⟨Int.emod_nonneg _ (by decide), Int.emod_lt_of_pos _ (by decide)⟩
    have nn : ∀ S, neV' (.lst (cs.map D.int)) (.lst []) S = some (.bl (!decide (cs.map D.int = [])), S) := fun S => ne_nil rfl (shDs_ints _ _)
    by_cases hc : cs = []
    · have nf : ∀ S, neV' (.lst (cs.map D.int)) (.lst []) S = some (.bl false, S) := fun S => by rw [nn S, hc]; rfl
      have lf : ¬ a < (cs.length : Int) := by rw [hc]; simp; exact ha.1
      refine ⟨mix a (1951 * a + 701) m, a + 1, 0, ?_, (mix_lt hm.1).1, (mix_lt hm.1).2, by omega, by omega, by omega⟩
      simp [F__law_draw, d__law_draw, body, g1, g2, ix_left hS, ix_at hS, set_at hS, ix_cells hS1, m1, m2, m3, m4, m5, p1, p2, q1, q2, q3, q4, r1, r2, nf, lf, mod_ii hm.1, mix]
    · have nt : ∀ S, neV' (.lst (cs.map D.int)) (.lst []) S = some (.bl true, S) := fun S => by rw [nn S, decide_eq_false (by simpa using hc)]; rfl
      have lp : 0 < cs.length := List.length_pos_iff.mpr hc
      have q5 : ∀ (x : Int) S, modV (.int x) (.int (cs.length : Int)) S = some (.int (x % (cs.length : Int)), S) := fun x S => mod_ii (by omega)
      have q6 : ∀ S, ixV (.lst (cs.map .int)) (.int (a % (cs.length : Int))) S = some (.int (cs.getD (a % (cs.length : Int)).toNat 0), S) := fun S => ixl (Int.emod_nonneg _ (by omega)) (Int.emod_lt_of_pos _ (by omega))
      generalize cs.getD (a % (cs.length : Int)).toNat 0 = cell at q6
      by_cases hb : a < (cs.length : Int) ∧ 10 ^ 18 ≤ (if cell < 0 then -cell else cell)
      · refine ⟨(2 * (if cell < 0 then -cell else cell) + (if cell < 0 then 1 else 0)) % m, a + 1, (2 * (if cell < 0 then -cell else cell) + (if cell < 0 then 1 else 0)) / m, ?_, Int.emod_nonneg _ (by omega), Int.emod_lt_of_pos _ hm.1, by omega, by omega, Int.ediv_nonneg (by split <;> omega) (by omega)⟩
        have hb2 : (1000000000000000000 : Int) ≤ (if cell < 0 then -cell else cell) := hb.2
        simp [F__law_draw, d__law_draw, body, g1, g2, ix_left hS, ix_at hS, set_at hS, ix_cells hS1, m1, m2, m3, m4, m5, m6, p1, p2, p3, q1, q2, q3, q4, q5, q6, r1, r2, nt, hb.1, hb2, mod_ii hm.1, div_ii hm2, set_left hS1]
      · refine ⟨mix a cell m, a + 1, 0, ?_, (mix_lt hm.1).1, (mix_lt hm.1).2, by omega, by omega, by omega⟩
        by_cases hb1 : a < (cs.length : Int)
        · have hb2 : ¬ (1000000000000000000 : Int) ≤ (if cell < 0 then -cell else cell) := fun z => hb ⟨hb1, z⟩
          simp [F__law_draw, d__law_draw, body, g1, g2, ix_left hS, ix_at hS, set_at hS, ix_cells hS1, m1, m2, m3, m4, m5, m6, p1, p2, p3, q1, q2, q3, q4, q5, q6, r1, r2, nt, hb1, hb2, mod_ii hm.1, mix]
        · simp [F__law_draw, d__law_draw, body, g1, g2, ix_left hS, ix_at hS, set_at hS, ix_cells hS1, m1, m2, m3, m4, m5, m6, p1, p2, p3, q1, q2, q3, q4, q5, q6, r1, r2, nt, hb1, mod_ii hm.1, mix]
theorem drawP {m : Nat} {o : Ob} {T : Sto} {k : Int} (h : PenOk m o) (hm : m < 1048576) (hk : 0 < k ∧ k ≤ 1048576) :
    ∃ d o', F__law_draw [.ref 0, .int k] (o :: T) = some (.ok (.int d) (o' :: T)) ∧ 0 ≤ d ∧ d < k ∧ PenOk (m + 1) o' := by
  obtain ⟨cs, a, l, h1, h2, h3, h4⟩ := h
  subst h1
  obtain ⟨d, a', l', e, d1, d2, d3, d4, d5⟩ := draw (S := pen cs a l :: T) rfl ⟨h2, by omega⟩ h4 hk
  exact ⟨d, _, e, d1, d2, cs, a', l', rfl, by omega, by omega, d5⟩
end Cw

set_option maxRecDepth 100000
set_option maxHeartbeats 2000000
set_option linter.all false
/-! k76: worths, kinds, wishes, bounds that are drawn. -/
namespace Cw
open PySem PySem.Spec PyProof.Rows L2
/-- ints yet to be drawn, ints drawn -/
structure Nice (l f : List Int) : Prop where
  nd : (l ++ f).Nodup
  ok : ∀ i ∈ l ++ f, okI i
theorem ix_two {x y : D} {S : Sto} {d : Int} (h : 0 ≤ d ∧ d < 2) : ∃ c, ixV (.lst [x, y]) (.int d) S = some (c, S) ∧ (c = x ∨ c = y) := by
  have : d = 0 ∨ d = 1 := by omega
  rcases this with e | e
  · subst e
    exact ⟨x, rfl, .inl rfl⟩
  · subst e
    exact ⟨y, rfl, .inr rfl⟩
noncomputable abbrev wBody : DS := sExpr (dMt "list" appendV (dVar 3) (aCons (dMt "list" popV (dVar 2) (aCons (dCall F__law_draw 2 [] (aCons (dVar 0) (aCons (dOp ixV (dLst (aCons (dCB (g1 len1) (aCons (dVar 2) (aNil))) (aCons (dCB (g2 min2) (aCons (dC (.int 4)) (aCons (dCB (g1 len1) (aCons (dVar 2) (aNil))) (aNil)))) (aNil)))) (dCall F__law_draw 2 [] (aCons (dVar 0) (aCons (dC (.int 2)) (aNil))))) (aNil)))) (aNil))) (aNil)))
theorem w_turn {m : Nat} {o : Ob} {T : Sto} {l f : List Int} {x y : Option D} (hp : PenOk m o) (hm : m + 2 ≤ 1048576) (hn : Nice l f) (hl : 0 < l.length) (hl2 : l.length ≤ 8) (hf : f.length ≤ 8) :
    ∃ o' l' f', wBody [some (.ref 0), x, some (.ref (T.length + 1)), some (.ref (T.length + 2)), y] (o :: (T ++ [.lst (l.map .int), .lst (f.map .int)])) = some (.nx [some (.ref 0), x, some (.ref (T.length + 1)), some (.ref (T.length + 2)), y] (o' :: (T ++ [.lst (l'.map .int), .lst (f'.map .int)]))) ∧
      PenOk (m + 2) o' ∧ Nice l' f' ∧ l'.length = l.length - 1 ∧ f'.length = f.length + 1 := by
  obtain ⟨d1, o1, e1, a1, b1, p1⟩ := drawP (T := T ++ [.lst (l.map .int), .lst (f.map .int)]) (k := 2) hp (by omega) (by omega)
  obtain ⟨c, e2, hc⟩ := ix_two (x := .int l.length) (y := .int (if (l.length : Int) < 4 then l.length else 4)) (S := o1 :: (T ++ [.lst (l.map .int), .lst (f.map .int)])) ⟨a1, b1⟩
  have hc2 : ∃ k : Int, c = .int k ∧ 0 < k ∧ k ≤ l.length := by
    rcases hc with h | h
    · exact ⟨_, h, by omega, by omega⟩
    · exact ⟨_, h, by split <;> omega, by split <;> omega⟩
  obtain ⟨k, rfl, k1, k2⟩ := hc2
  obtain ⟨d2, o2, e3, a2, b2, p2⟩ := drawP (T := T ++ [.lst (l.map .int), .lst (f.map .int)]) (k := k) p1 (by omega) (by omega)
  have hd : d2.toNat < l.length := by omega
  refine ⟨o2, l.eraseIdx d2.toNat, f ++ [l[d2.toNat]], ?_, p2, ?_, by rw [List.length_eraseIdx_of_lt hd], by simp⟩
  · have t1 := ty_ref (at1 (o := o) (T := T) (A := .lst (l.map .int)) (R := [.lst (f.map .int)]))
    have t2 := ty_ref (at2 (o := o) (T := T) (A := .lst (l.map .int)) (B := .lst (f.map .int)) (R := []))
    have n1 := len_ref (at1 (o := o) (T := T) (A := .lst (l.map .int)) (R := [.lst (f.map .int)]))
    have w1 := pop_ref (i := d2) (at1 (o := o2) (T := T) (A := .lst (l.map .int)) (R := [.lst (f.map .int)])) a2 (by simp; omega) (by simp; omega)
    rw [set1] at w1
    have w2 := app_ref (d := .int l[d2.toNat]) (at2 (o := o2) (T := T) (A := .lst ((l.map .int).eraseIdx d2.toNat)) (B := .lst (f.map .int)) (R := [])) (by simp [big_eq]; omega)
    rw [set2] at w2
    rw [getD_map D.int hd, erase_map] at w1
    rw [erase_map] at w2
    simp [wBody, g1, g2, t1, t2, n1, ty_ref at1, ty_ref at2, len_ref at1, min2, e1, e2, e3, w1, w2, big_eq]
  · have pe := (perm_erase hd).append_right f
    have pq : (l.eraseIdx d2.toNat ++ (f ++ [l[d2.toNat]])).Perm (l ++ f) := by
      refine List.Perm.trans ?_ pe
      rw [← List.append_assoc]
      exact List.perm_append_singleton _ _
    exact ⟨pq.nodup_iff.mpr hn.nd, fun i hi => hn.ok i (pq.mem_iff.mp hi)⟩
theorem w_loop {T : Sto} {x : Option D} : ∀ (ds : List D) {m : Nat} {o : Ob} {l f : List Int} {y : Option D}, PenOk m o → m + 2 * ds.length ≤ 1048576 → Nice l f → ds.length ≤ l.length → l.length ≤ 8 → f.length + ds.length ≤ 8 →
    ∃ o' l' f' y', forD (gNm 4) wBody ds [some (.ref 0), x, some (.ref (T.length + 1)), some (.ref (T.length + 2)), y] (o :: (T ++ [.lst (l.map .int), .lst (f.map .int)])) =
      some (.nx [some (.ref 0), x, some (.ref (T.length + 1)), some (.ref (T.length + 2)), y'] (o' :: (T ++ [.lst (l'.map .int), .lst (f'.map .int)]))) ∧ PenOk (m + 2 * ds.length) o' ∧ Nice l' f' ∧ f'.length = f.length + ds.length
  | [], m, o, l, f, y, hp, hm, hn, h1, h2, h3 => ⟨o, l, f, y, rfl, hp, hn, rfl⟩
  | d :: ds, m, o, l, f, y, hp, hm, hn, h1, h2, h3 => by
    rw [List.length_cons] at hm h1 h3
    obtain ⟨o1, l1, f1, e1, p1, n1, l1e, f1e⟩ := w_turn (T := T) (x := x) (y := some d) hp (by omega) hn (by omega) h2 (by omega)
    obtain ⟨o2, l2, f2, y2, e2, p2, n2, f2e⟩ := w_loop (T := T) (x := x) ds (y := some d) p1 (by omega) n1 (by omega) (by omega) (by omega)
    refine ⟨o2, l2, f2, y2, ?_, p2.mono (by rw [List.length_cons]; omega), n2, by rw [List.length_cons]; omega⟩
    rw [for_nm, show ([some (.ref 0), x, some (.ref (T.length + 1)), some (.ref (T.length + 2)), y] : Env).set 4 (some d) = [some (.ref 0), x, some (.ref (T.length + 1)), some (.ref (T.length + 2)), some d] from rfl, e1]
    exact e2
theorem upto_small {n : Nat} : rng1 [.int (n : Int)] = if isSmall (n : Int) then some (upto 0 n) else none := rfl
theorem worths {m : Nat} {o : Ob} {T : Sto} {k : Int} (hp : PenOk m o) (hm : m + 20 ≤ 1048576) (hk : 1 ≤ k ∧ k ≤ 6) :
    ∃ ws o', F__law_worths [.ref 0, .int k] (o :: T) = some (.ok (worthsD ws) (o' :: T)) ∧ PenOk (m + 20) o' ∧ okWs ws := by
  obtain ⟨d, o1, e1, a1, b1, p1⟩ := drawP (T := T ++ [.lst ([0, 1, 2, 3, 7, 10, 9999, 5000].map .int), .lst (([] : List Int).map .int)]) (k := k) hp (by omega) (by omega)
  have n0 : Nice [0, 1, 2, 3, 7, 10, 9999, 5000] [] := ⟨by decide, by unfold okI; decide⟩
  have hd : (upto 0 (1 + d).toNat).length = (1 + d).toNat := upto_len _ _
  obtain ⟨o2, l2, f2, y2, e2, p2, n2, f2e⟩ := w_loop (T := T) (x := some (.int k)) (upto 0 (1 + d).toNat) (y := none) p1 (by omega) n0 (by rw [hd]; simp; omega) (by simp) (by rw [hd]; simp; omega)
  refine ⟨f2, o2, ?_, p2.mono (by omega), ?_, ?_, ?_, ?_⟩
  · refine cut_ok (X := [.lst (l2.map .int), .lst (f2.map .int)]) ?_ (lowDs_ints _ _) p2.low
    have hs : isSmall (1 + d) := by unfold isSmall; omega
    have t2 := tuple_ref (at2 (o := o2) (T := T) (A := .lst (l2.map .int)) (B := .lst (f2.map .int)) (R := []))
    simp at e1
    simp only [List.map_cons, List.map_nil] at e2
    simp [body, d__law_worths, g1, g2, sFor, iRg1, big_eq, e1, rng1, hs, two]
    rw [e2]
    simp [t2, g1, worthsD]
  · rw [f2e, hd]
    show 1 ≤ 0 + (1 + d).toNat
    omega
  · rw [f2e, hd]
    show 0 + (1 + d).toNat ≤ 6
    omega
  · exact (List.nodup_append.mp n2.nd).2.1
  · exact fun i hi => n2.ok i (List.mem_append_right _ hi)

/-! ### kinds -/
noncomputable abbrev kElt : DE := dMt "list" popV (dVar 2) (aCons (dCall F__law_draw 2 [] (aCons (dVar 0) (aCons (dCB (g1 len1) (aCons (dVar 2) (aNil))) (aNil)))) (aNil))
theorem k_turn {m : Nat} {o A : Ob} {T : Sto} {l : List Str} {x y : Option D} (hp : PenOk m o) (hm : m + 1 ≤ 1048576) (hl : 0 < l.length) (hl2 : l.length ≤ 100) :
    ∃ (o' : Ob) (s : Str) (l' : List Str), kElt [some (.ref 0), x, some (.ref (T.length + 2)), y] (o :: (T ++ [A, .lst (l.map .str)])) = some (.ok (.str s) (o' :: (T ++ [A, .lst (l'.map .str)]))) ∧ PenOk (m + 1) o' ∧ (s :: l').Perm l := by
  obtain ⟨d, o1, e1, a1, b1, p1⟩ := drawP (T := T ++ [A, .lst (l.map .str)]) (k := l.length) hp (by omega) (by omega)
  have hd : d.toNat < l.length := by omega
  refine ⟨o1, l[d.toNat], l.eraseIdx d.toNat, ?_, p1, perm_erase hd⟩
  have t2 := ty_ref (at2 (o := o) (T := T) (A := A) (B := .lst (l.map .str)) (R := []))
  have n2 := len_ref (at2 (o := o) (T := T) (A := A) (B := .lst (l.map .str)) (R := []))
  have w2 := pop_ref (i := d) (at2 (o := o1) (T := T) (A := A) (B := .lst (l.map .str)) (R := [])) a1 (by simp; omega) (by simp; omega)
  rw [set2, getD_map D.str hd, erase_map] at w2
  simp [kElt, g1, t2, n2, e1, w2]
theorem k_loop {A : Ob} {T : Sto} {x y : Option D} : ∀ (ds : List D) {m : Nat} {o : Ob} {l acc : List Str}, PenOk m o → m + ds.length ≤ 1048576 → ds.length ≤ l.length → l.length ≤ 100 → acc.length + ds.length ≤ 100 →
    ∃ (o' : Ob) (l' ks : List Str), lcD [3] (gNm 3) tYesD kElt ds [some (.ref 0), x, some (.ref (T.length + 2)), y] (o :: (T ++ [A, .lst (l.map .str)])) (acc.map .str) = some (.ok (ks.map .str) (o' :: (T ++ [A, .lst (l'.map .str)]))) ∧
      PenOk (m + ds.length) o' ∧ (l' ++ ks).Perm (l ++ acc) ∧ ks.length = acc.length + ds.length
  | [], m, o, l, acc, hp, hm, h1, h2, h3 => ⟨o, l, acc, rfl, hp, List.Perm.refl _, rfl⟩
  | d :: ds, m, o, l, acc, hp, hm, h1, h2, h3 => by
    rw [List.length_cons] at hm h1 h3
    obtain ⟨o1, s, l1, e1, p1, q1⟩ := k_turn (A := A) (T := T) (x := x) (y := some d) hp (by omega) (by omega) h2
    have len1 : l1.length + 1 = l.length := by simpa using q1.length_eq
    obtain ⟨o2, l2, ks, e2, p2, q2, n2⟩ := k_loop (A := A) (T := T) (x := x) (y := y) ds (l := l1) (acc := acc ++ [s]) p1 (by omega) (by omega) (by omega) (by simp; omega)
    refine ⟨o2, l2, ks, ?_, p2.mono (by rw [List.length_cons]; omega), q2.trans ?_, by rw [n2]; simp; omega⟩
    · rw [lc_nm, show ((wipeD [some (.ref 0), x, some (.ref (T.length + 2)), y] [3]).set 3 (some d)) = [some (.ref 0), x, some (.ref (T.length + 2)), some d] from rfl, e1, bndL_ok, if_pos (by simp [big_eq]; omega)]
      rw [List.map_append] at e2
      exact e2
    · have z : (l1 ++ (acc ++ [s])).Perm (s :: l1 ++ acc) := by
        rw [← List.append_assoc]
        exact List.perm_append_singleton s (l1 ++ acc)
      exact z.trans (q1.append_right acc)
theorem kinds {m : Nat} {o : Ob} {T : Sto} {k : Int} (hp : PenOk m o) (hm : m + 10 ≤ 1048576) (hk : 0 ≤ k ∧ k ≤ 8) :
    ∃ (ks : List Str) (o' : Ob), F__law_kinds [.ref 0, .int k] (o :: T) = some (.ok (.lst (ks.map .str)) (o' :: T)) ∧ PenOk (m + 10) o' ∧ ks.Nodup ∧ (∀ s ∈ ks, s ∈ NAMES ∧ s ≠ "qq") ∧ ks.length = k.toNat := by
  let l0 : List Str := ["a", "aa", "b", "ba", "c", "k", "l", "o", "zz", "zzzzzzzz", "m", "ma", "bounds", "wishes", "must", "if", "wish", "open", "to"]
  have hd : (upto 0 k.toNat).length = k.toNat := upto_len _ _
  obtain ⟨o2, l2, ks, e2, p2, q2, n2⟩ := k_loop (A := .lst ((l0.take 16).map .str)) (T := T) (x := some (.int k)) (y := none) (upto 0 k.toNat) (l := l0) (acc := []) hp (by omega) (by rw [hd]; show k.toNat ≤ 19; omega) (by decide) (by rw [hd]; show 0 + k.toNat ≤ 100; omega)
  rw [List.append_nil] at q2
  have nd : (l2 ++ ks).Nodup := q2.nodup_iff.mpr (by decide +kernel)
  refine ⟨ks, o2, ?_, p2.mono (by omega), (List.nodup_append.mp nd).2.1, fun s hs => ?_, by rw [n2, hd]; show 0 + k.toNat = k.toNat; omega⟩
  · refine cut_ok (X := [.lst ((l0.take 16).map .str), .lst (l2.map .str)]) ?_ (lowDs_strs _ _) p2.low
    have hs : isSmall k := by unfold isSmall; omega
    have c1 : ∀ ds : List D, lstOf (o :: (T ++ [Ob.lst ds])) (.ref (T.length + 1)) = some ds := fun ds => by
      unfold lstOf
      simp only [at1]
    simp only [l0, List.map_cons, List.map_nil, List.take, List.take_succ_cons] at e2 ⊢
    simp [body, d__law_kinds, g1, iRg1, big_eq, rng1, hs, two, addVO, c1, lstOf, dLc]
    rw [e2]
    simp
  · have key : ∀ s ∈ l0, s ∈ NAMES ∧ s ≠ "qq" := by decide +kernel
    exact key s (q2.mem_iff.mp (List.mem_append_right _ hs))

/-! ### wishes -/
theorem low_wsh (n : Nat) (w : Wsh) : lowD n w.d = true := by
  have h : lowD n (needsD w.needs) = true := by
    cases w.needs with
    | none => rfl
    | some p => rfl
  show (true && (lowDs n (w.ws.map .int) && (true && (lowD n (needsD w.needs) && true)))) = true
  rw [lowDs_ints, h]
  rfl
theorem low_bound (n : Nat) (b : Str × List Int) : lowD n (boundD b) = true := by
  show (true && (lowDs n (b.2.map .int) && true)) = true
  rw [lowDs_ints]
  rfl
noncomputable abbrev nPart : DS := sIf (tAndD (asT (dOp neV' (dVar 4) (dLst (aNil)))) (asT (dOp eqV' (dCall F__law_draw 2 [] (aCons (dVar 0) (aCons (dC (.int 3)) (aNil)))) (dC (.int 0))))) (sSeq (sAsg (dOp ixV (dVar 4) (dCall F__law_draw 2 [] (aCons (dVar 0) (aCons (dCB (g1 len1) (aCons (dVar 4) (aNil))) (aNil))))) (gNm 7)) (sAsg (dTup (aCons (dOp ixV (dVar 7) (dC (.int 0))) (aCons (dOp ixV (dOp addV (dOp ixV (dVar 7) (dC (.int 1))) (dTup (aCons (dC (.int 4)) (aNil)))) (dCall F__law_draw 2 [] (aCons (dVar 0) (aCons (dOp addV (dCB (g1 len1) (aCons (dOp ixV (dVar 7) (dC (.int 1))) (aNil))) (dC (.int 1))) (aNil))))) (aNil)))) (gNm 6))) (sNext)
theorem n_part {m : Nat} {o A : Ob} {T : Sto} {W : List Wsh} {x k r s y : Option D} (hp : PenOk m o) (hm : m + 3 ≤ 1048576) (hW : okL [] W) (hl : W.length ≤ 10) :
    ∃ (o' : Ob) (nd : Option (Str × Int)) (y' : Option D), nPart [some (.ref 0), x, k, r, some (.ref (T.length + 2)), s, some .non, y] (o :: (T ++ [A, .lst (W.map Wsh.d)])) =
      some (.nx [some (.ref 0), x, k, r, some (.ref (T.length + 2)), s, some (needsD nd), y'] (o' :: (T ++ [A, .lst (W.map Wsh.d)]))) ∧ PenOk (m + 3) o' ∧ okNeeds (W.map Wsh.k) nd := by
  have sh : shDs 60 (W.map Wsh.d) = true := shDs_map fun w hw => by
    obtain ⟨h1, s, h2⟩ := okL_mem hW hw
    exact sh_wsh h1.1 h2
  have ne : ∀ o : Ob, neV' (.ref (T.length + 2)) (.lst []) (o :: (T ++ [A, .lst (W.map Wsh.d)])) = some (.bl (!decide (W.map Wsh.d = [])), o :: (T ++ [A, .lst (W.map Wsh.d)])) := fun o => ne_nil (lst_ref at2) sh
  by_cases hw : W = []
  · refine ⟨o, none, y, ?_, hp.mono (by omega), trivial⟩
    have ne' : neV' (.ref (T.length + 2)) (.lst []) (o :: (T ++ [A, .lst (W.map Wsh.d)])) = some (.bl false, o :: (T ++ [A, .lst (W.map Wsh.d)])) := by
      rw [ne o, hw]
      rfl
    simp [big_eq, ne', needsD]
  · have ne' : ∀ o, neV' (.ref (T.length + 2)) (.lst []) (o :: (T ++ [A, .lst (W.map Wsh.d)])) = some (.bl true, o :: (T ++ [A, .lst (W.map Wsh.d)])) := fun o => by
      rw [ne o, decide_eq_false (by simpa using hw)]
      rfl
    have lp : 0 < W.length := List.length_pos_iff.mpr hw
    obtain ⟨d1, o1, e1, a1, b1, p1⟩ := drawP (T := T ++ [A, .lst (W.map Wsh.d)]) (k := 3) hp (by omega) (by omega)
    by_cases hd : d1 = 0
    · subst hd
      obtain ⟨d2, o2, e2, a2, b2, p2⟩ := drawP (T := T ++ [A, .lst (W.map Wsh.d)]) (k := W.length) p1 (by omega) (by omega)
      have h2 : d2.toNat < W.length := by omega
      have ix2 := ix_ref (i := d2) (at2 (o := o2) (T := T) (A := A) (B := .lst (W.map Wsh.d)) (R := [])) a2 (by simp; omega)
      rw [getD_map Wsh.d h2] at ix2
      generalize hw2 : W[d2.toNat] = w at ix2
      have wm : w ∈ W := by rw [← hw2]; exact List.getElem_mem h2
      obtain ⟨⟨wk, wl1, wl2, _, wi⟩, _⟩ := okL_mem hW wm
      obtain ⟨d3, o3, e3, a3, b3, p3⟩ := drawP (T := T ++ [A, .lst (W.map Wsh.d)]) (k := w.ws.length + 1) p2 (by omega) (by omega)
      have h3 : d3.toNat < (w.ws ++ [4]).length := by rw [List.length_append, List.length_singleton]; omega
      have ix0 : ∀ S, ixV w.d (.int 0) S = some (.str w.k, S) := fun S => rfl
      have ix1 : ∀ S, ixV w.d (.int 1) S = some (.tup (w.ws.map .int), S) := fun S => rfl
      have ad : ∀ S, addV (.tup (w.ws.map .int)) (.tup [.int 4]) S = some (.tup ((w.ws ++ [4]).map .int), S) := fun S => by
        rw [add_tt (by simp [big_eq]; omega), List.map_append]
        rfl
      have ix3 : ∀ S, ixV (.tup ((w.ws ++ [4]).map .int)) (.int d3) S = some (.int (w.ws ++ [4])[d3.toNat], S) := fun S => by
        rw [ix_tup a3 (by simp; omega), getD_map D.int h3]
      have n2 := fun o => len_ref (at2 (o := o) (T := T) (A := A) (B := .lst (W.map Wsh.d)) (R := []))
      generalize hv : (w.ws ++ [4])[d3.toNat] = v at ix3
      refine ⟨o3, some (w.k, v), some w.d, ?_, p3, List.mem_map.mpr ⟨w, wm, rfl⟩, wk, ?_⟩
      · simp only [List.map_append, List.map_cons, List.map_nil] at ix3 ad
        simp [g1, big_eq, ne', e1, n2, e2, ix2, ix0, ix1, ad, e3, ix3, needsD]
      · have : v ∈ w.ws ++ [4] := by rw [← hv]; exact List.getElem_mem h3
        rcases List.mem_append.mp this with z | z
        · exact wi v z
        · rw [List.mem_singleton.mp z]
          unfold okI
          omega
    · refine ⟨o1, none, y, ?_, p1.mono (by omega), trivial⟩
      simp [big_eq, ne', e1, hd, needsD]
noncomputable abbrev wCond : DT := asT (dOp neV' (dVar 3) (dLst (aNil)))
noncomputable abbrev wTurn : DS := sSeq (sAsg (dMt "list" popV (dVar 3) (aCons (dCall F__law_draw 2 [] (aCons (dVar 0) (aCons (dCB (g1 len1) (aCons (dVar 3) (aNil))) (aNil)))) (aNil))) (gNm 5)) (sSeq (sAsg (dC .non) (gNm 6)) (sSeq nPart (sExpr (dMt "list" appendV (dVar 4) (aCons (dTup (aCons (dVar 5) (aCons (dCall F__law_worths 2 [] (aCons (dVar 0) (aCons (dVar 2) (aNil)))) (aCons (dOp eqV' (dCall F__law_draw 2 [] (aCons (dVar 0) (aCons (dC (.int 3)) (aNil)))) (dC (.int 0))) (aCons (dVar 6) (aNil)))))) (aNil))))))
theorem wish_turn {m : Nat} {o : Ob} {T : Sto} {l : List Str} {W : List Wsh} {x y5 y6 y7 : Option D} {k : Int} (hp : PenOk m o) (hm : m + 30 ≤ 1048576) (hk : 1 ≤ k ∧ k ≤ 6) (hW : okL [] W) (hl : W.length ≤ 10) (hl1 : 0 < l.length) (hl2 : l.length ≤ 10) :
    ∃ (o' : Ob) (l' : List Str) (w : Wsh) (z5 z6 z7 : Option D), wTurn [some (.ref 0), x, some (.int k), some (.ref (T.length + 1)), some (.ref (T.length + 2)), y5, y6, y7] (o :: (T ++ [.lst (l.map .str), .lst (W.map Wsh.d)])) =
      some (.nx [some (.ref 0), x, some (.int k), some (.ref (T.length + 1)), some (.ref (T.length + 2)), z5, z6, z7] (o' :: (T ++ [.lst (l'.map .str), .lst ((W ++ [w]).map Wsh.d)]))) ∧
      PenOk (m + 30) o' ∧ (w.k :: l').Perm l ∧ okNeeds (W.map Wsh.k) w.needs ∧ okWs w.ws := by
  obtain ⟨d, o1, e1, a1, b1, p1⟩ := drawP (T := T ++ [.lst (l.map .str), .lst (W.map Wsh.d)]) (k := l.length) hp (by omega) (by omega)
  have hd : d.toNat < l.length := by omega
  have t1 := ty_ref (at1 (o := o) (T := T) (A := .lst (l.map .str)) (R := [.lst (W.map Wsh.d)]))
  have n1 := len_ref (at1 (o := o) (T := T) (A := .lst (l.map .str)) (R := [.lst (W.map Wsh.d)]))
  have w1 := pop_ref (i := d) (at1 (o := o1) (T := T) (A := .lst (l.map .str)) (R := [.lst (W.map Wsh.d)])) a1 (by simp; omega) (by simp; omega)
  rw [set1, getD_map D.str hd, erase_map] at w1
  have pe := perm_erase hd
  generalize l[d.toNat] = s at w1 pe
  generalize l.eraseIdx d.toNat = l' at w1 pe
  obtain ⟨o2, nd, z7, e2, p2, hn⟩ := n_part (T := T) (A := .lst (l'.map .str)) (x := x) (k := some (.int k)) (r := some (.ref (T.length + 1))) (s := some (.str s)) (y := y7) p1 (by omega) hW hl
  obtain ⟨ws, o3, e3, p3, hw⟩ := worths (T := T ++ [.lst (l'.map .str), .lst (W.map Wsh.d)]) p2 (by omega) hk
  obtain ⟨d4, o4, e4, a4, b4, p4⟩ := drawP (T := T ++ [.lst (l'.map .str), .lst (W.map Wsh.d)]) (k := 3) p3 (by omega) (by omega)
  have t2 := fun o => ty_ref (at2 (o := o) (T := T) (A := .lst (l'.map .str)) (B := .lst (W.map Wsh.d)) (R := []))
  have w2 := app_ref (d := Wsh.d ⟨s, ws, decide (d4 = 0), nd⟩) (at2 (o := o4) (T := T) (A := .lst (l'.map .str)) (B := .lst (W.map Wsh.d)) (R := [])) (by simp [big_eq]; omega)
  rw [set2] at w2
  refine ⟨o4, l', ⟨s, ws, decide (d4 = 0), nd⟩, some (.str s), some (needsD nd), z7, ?_, p4.mono (by omega), pe, hn, hw⟩
  have w2' : appendV (.ref (T.length + 2)) [.tup [.str s, worthsD ws, .bl (decide (d4 = 0)), needsD nd]] (o4 :: (T ++ [.lst (l'.map .str), .lst (W.map Wsh.d)])) = some (.non, o4 :: (T ++ [.lst (l'.map .str), .lst (W.map Wsh.d ++ [Wsh.d ⟨s, ws, decide (d4 = 0), nd⟩])])) := w2
  rw [show wTurn = sSeq (sAsg (dMt "list" popV (dVar 3) (aCons (dCall F__law_draw 2 [] (aCons (dVar 0) (aCons (dCB (g1 len1) (aCons (dVar 3) (aNil))) (aNil)))) (aNil))) (gNm 5)) (sSeq (sAsg (dC .non) (gNm 6)) (sSeq nPart (sExpr (dMt "list" appendV (dVar 4) (aCons (dTup (aCons (dVar 5) (aCons (dCall F__law_worths 2 [] (aCons (dVar 0) (aCons (dVar 2) (aNil)))) (aCons (dOp eqV' (dCall F__law_draw 2 [] (aCons (dVar 0) (aCons (dC (.int 3)) (aNil)))) (dC (.int 0))) (aCons (dVar 6) (aNil)))))) (aNil)))))) from rfl]
  generalize hN : nPart = N at e2
  simp [g1, big_eq, t1, n1, e1, w1, e2, e3, e4, t2, List.map_append]
  rw [w2']
  rfl
theorem wish_loop {T : Sto} {x : Option D} {k : Int} (hk : 1 ≤ k ∧ k ≤ 6) : ∀ (n : Nat) {m : Nat} {o : Ob} {l : List Str} {W : List Wsh} {y5 y6 y7 : Option D}, l.length = n → PenOk m o → m + 30 * n ≤ 1048576 → okL [] W → W.length + n ≤ 10 → (l ++ W.map Wsh.k).Nodup → (∀ s ∈ l, okName s) →
    ∃ (o' : Ob) (W' : List Wsh) (z5 z6 z7 : Option D), whileD wCond wTurn (n + 1) [some (.ref 0), x, some (.int k), some (.ref (T.length + 1)), some (.ref (T.length + 2)), y5, y6, y7] (o :: (T ++ [.lst (l.map .str), .lst (W.map Wsh.d)])) =
      some (.nx [some (.ref 0), x, some (.int k), some (.ref (T.length + 1)), some (.ref (T.length + 2)), z5, z6, z7] (o' :: (T ++ [.lst [], .lst (W'.map Wsh.d)]))) ∧ PenOk (m + 30 * n) o' ∧ okL [] W' ∧ W'.length = W.length + n
  | 0, m, o, l, W, y5, y6, y7, hn, hp, hm, hW, hl, nd, ok => by
    have : l = [] := List.length_eq_zero_iff.mp hn
    subst this
    refine ⟨o, W, y5, y6, y7, ?_, hp, hW, rfl⟩
    have c := ne_nil (lst_ref (at1 (o := o) (T := T) (A := .lst []) (R := [.lst (W.map Wsh.d)]))) (by rfl)
    have c' : wCond [some (.ref 0), x, some (.int k), some (.ref (T.length + 1)), some (.ref (T.length + 2)), y5, y6, y7] (o :: (T ++ [.lst (List.map D.str []), .lst (W.map Wsh.d)])) = some (.ok false (o :: (T ++ [.lst [], .lst (W.map Wsh.d)]))) := by
      simp [wCond, big_eq, c]
    show bndS (wCond _ _) _ _ = _
    rw [c', bndS_ok, if_neg Bool.false_ne_true]
  | n + 1, m, o, l, W, y5, y6, y7, hn, hp, hm, hW, hl, nd, ok => by
    have lp : 0 < l.length := by omega
    obtain ⟨o1, l1, w, z5, z6, z7, e1, p1, q1, h1, h2⟩ := wish_turn (T := T) (x := x) (y5 := y5) (y6 := y6) (y7 := y7) (k := k) hp (by omega) hk hW (by omega) lp (by omega)
    have c := ne_nil (lst_ref (at1 (o := o) (T := T) (A := .lst (l.map .str)) (R := [.lst (W.map Wsh.d)]))) (shDs_map fun s hs => name_ok s (ok s hs))
    have hne : ¬ l = [] := fun e => by rw [e] at lp; cases lp
    have c' : wCond [some (.ref 0), x, some (.int k), some (.ref (T.length + 1)), some (.ref (T.length + 2)), y5, y6, y7] (o :: (T ++ [.lst (l.map .str), .lst (W.map Wsh.d)])) = some (.ok true (o :: (T ++ [.lst (l.map .str), .lst (W.map Wsh.d)]))) := by
      simp [wCond, big_eq, c, hne]
    have pq : (w.k :: l1 ++ W.map Wsh.k).Perm (l ++ W.map Wsh.k) := q1.append_right _
    have nd1 := pq.nodup_iff.mpr nd
    have nk : w.k ∉ [] ++ W.map Wsh.k := fun hm => (List.nodup_cons.mp nd1).1 (List.mem_append_right _ hm)
    have okw : okName w.k := ok _ (q1.mem_iff.mp List.mem_cons_self)
    have hW1 := okL_snoc hW nk h1 ⟨okw, h2⟩
    have nd2 : (l1 ++ (W ++ [w]).map Wsh.k).Nodup := by
      have : (l1 ++ (W ++ [w]).map Wsh.k).Perm (w.k :: l1 ++ W.map Wsh.k) := by
        rw [List.map_append, ← List.append_assoc]
        exact List.perm_append_singleton _ _
      exact this.nodup_iff.mpr nd1
    obtain ⟨o2, W2, v5, v6, v7, e2, p2, h3, h4⟩ := wish_loop (T := T) (x := x) hk n (y5 := z5) (y6 := z6) (y7 := z7) (by have := q1.length_eq; rw [List.length_cons] at this; omega) p1 (by omega) hW1 (by rw [List.length_append, List.length_singleton]; omega) nd2 (fun s hs => ok s (q1.mem_iff.mp (List.mem_cons_of_mem _ hs)))
    refine ⟨o2, W2, v5, v6, v7, ?_, p2.mono (by omega), h3, by rw [h4, List.length_append, List.length_singleton]; omega⟩
    show bndS (wCond _ _) _ _ = _
    rw [c', bndS_ok, if_pos rfl, e1]
    exact e2
theorem wishes {m : Nat} {o : Ob} {T : Sto} {ks : List Str} {k : Int} (hp : PenOk m o) (hm : m + 300 ≤ 1048576) (hk : 1 ≤ k ∧ k ≤ 6) (hn : ks.length ≤ 6) (nd : ks.Nodup) (ok : ∀ s ∈ ks, okName s) :
    ∃ (W : List Wsh) (o' : Ob), F__law_wishes [.ref 0, .lst (ks.map .str), .int k] (o :: T) = some (.ok (.tup (W.map Wsh.d)) (o' :: T)) ∧ PenOk (m + 300) o' ∧ okL [] W ∧ W.length = ks.length := by
  obtain ⟨o1, W, z5, z6, z7, e1, p1, h1, h2⟩ := wish_loop (T := T) (x := some (.lst (ks.map .str))) hk ks.length (o := o) (m := m) (l := ks) (W := []) (y5 := none) (y6 := none) (y7 := none) rfl hp (by omega) trivial (by simp; omega) (by simpa using nd) ok
  refine ⟨W, o1, ?_, p1.mono (by omega), h1, by simpa using h2⟩
  refine cut_ok (X := [.lst [], .lst (W.map Wsh.d)]) ?_ (lowDs_map _ _ (low_wsh _) _) p1.low
  have t2 := tuple_ref (at2 (o := o1) (T := T) (A := .lst []) (B := .lst (W.map Wsh.d)) (R := []))
  have e2 := while_eq e1
  simp only [List.map_nil] at e2
  simp [body, d__law_wishes, g1, big_eq, list1O, items, two]
  rw [e2]
  simp [t2, g1]

/-! ### bounds -/
noncomputable abbrev bTurn : DS := sIf (asT (dOp gtV (dCall F__law_draw 2 [] (aCons (dVar 0) (aCons (dC (.int 5)) (aNil)))) (dC (.int 0)))) (sExpr (dMt "list" appendV (dVar 3) (aCons (dTup (aCons (dVar 4) (aCons (dCall F__law_worths 2 [] (aCons (dVar 0) (aCons (dVar 2) (aNil)))) (aNil)))) (aNil)))) (sNext)
def okBs (seen : List Str) (B : List (Str × List Int)) : Prop := (B.map (·.1)).Sublist seen ∧ ∀ b ∈ B, okWs b.2
theorem bound_loop {T : Sto} {x : Option D} {k : Int} (hk : 1 ≤ k ∧ k ≤ 6) : ∀ (ks : List Str) {m : Nat} {o : Ob} {B : List (Str × List Int)} {seen : List Str} {y : Option D}, PenOk m o → m + 30 * ks.length ≤ 1048576 → B.length + ks.length ≤ 10 → okBs seen B →
    ∃ (o' : Ob) (B' : List (Str × List Int)) (z : Option D), forD (gNm 4) bTurn (ks.map .str) [some (.ref 0), x, some (.int k), some (.ref (T.length + 1)), y] (o :: (T ++ [.lst (B.map boundD)])) =
      some (.nx [some (.ref 0), x, some (.int k), some (.ref (T.length + 1)), z] (o' :: (T ++ [.lst (B'.map boundD)]))) ∧ PenOk (m + 30 * ks.length) o' ∧ okBs (seen ++ ks) B' ∧ B'.length ≤ B.length + ks.length
  | [], m, o, B, seen, y, hp, hm, hl, hb => ⟨o, B, y, rfl, hp, by rw [List.append_nil]; exact hb, Nat.le_refl _⟩
  | s :: ks, m, o, B, seen, y, hp, hm, hl, hb => by
    rw [List.length_cons] at hm hl
    obtain ⟨d, o1, e1, a1, b1, p1⟩ := drawP (T := T ++ [.lst (B.map boundD)]) (k := 5) hp (by omega) (by omega)
    rw [List.map_cons, for_nm, show ([some (.ref 0), x, some (.int k), some (.ref (T.length + 1)), y] : Env).set 4 (some (.str s)) = [some (.ref 0), x, some (.int k), some (.ref (T.length + 1)), some (.str s)] from rfl]
    by_cases hd : 0 < d
    · obtain ⟨ws, o2, e2, p2, hw⟩ := worths (T := T ++ [.lst (B.map boundD)]) p1 (by omega) hk
      have t1 := fun o => ty_ref (at1 (o := o) (T := T) (A := .lst (B.map boundD)) (R := []))
      have w1 := app_ref (d := boundD (s, ws)) (at1 (o := o2) (T := T) (A := .lst (B.map boundD)) (R := [])) (by simp [big_eq]; omega)
      rw [set1] at w1
      have turn : bTurn [some (.ref 0), x, some (.int k), some (.ref (T.length + 1)), some (.str s)] (o :: (T ++ [.lst (B.map boundD)])) = some (.nx [some (.ref 0), x, some (.int k), some (.ref (T.length + 1)), some (.str s)] (o2 :: (T ++ [.lst ((B ++ [(s, ws)]).map boundD)]))) := by
        have w1' : appendV (.ref (T.length + 1)) [.tup [.str s, worthsD ws]] (o2 :: (T ++ [.lst (B.map boundD)])) = some (.non, o2 :: (T ++ [.lst (B.map boundD ++ [boundD (s, ws)])])) := w1
        simp [bTurn, e1, hd, t1, e2, big_eq, w1', List.map_append]
      obtain ⟨o3, B3, z, e3, p3, h3, h4⟩ := bound_loop (T := T) (x := x) hk ks (B := B ++ [(s, ws)]) (seen := seen ++ [s]) (y := some (.str s)) p2 (by omega) (by rw [List.length_append, List.length_singleton]; omega) ⟨by
        rw [List.map_append]
        exact hb.1.append (List.Sublist.refl _), fun b hm => by
        rcases List.mem_append.mp hm with z | z
        · exact hb.2 b z
        · rw [List.mem_singleton.mp z]
          exact hw⟩
      rw [List.append_assoc] at h3
      refine ⟨o3, B3, z, ?_, p3.mono (by rw [List.length_cons]; omega), h3, by rw [List.length_append, List.length_singleton] at h4; rw [List.length_cons]; omega⟩
      rw [turn]
      exact e3
    · have turn : bTurn [some (.ref 0), x, some (.int k), some (.ref (T.length + 1)), some (.str s)] (o :: (T ++ [.lst (B.map boundD)])) = some (.nx [some (.ref 0), x, some (.int k), some (.ref (T.length + 1)), some (.str s)] (o1 :: (T ++ [.lst (B.map boundD)]))) := by
        simp [bTurn, e1, hd]
      obtain ⟨o3, B3, z, e3, p3, h3, h4⟩ := bound_loop (T := T) (x := x) hk ks (B := B) (seen := seen ++ [s]) (y := some (.str s)) p1 (by omega) (by omega) ⟨hb.1.trans (List.sublist_append_left _ _), hb.2⟩
      rw [List.append_assoc] at h3
      refine ⟨o3, B3, z, ?_, p3.mono (by rw [List.length_cons]; omega), h3, by rw [List.length_cons]; omega⟩
      rw [turn]
      exact e3
theorem bounds {m : Nat} {o : Ob} {T : Sto} {ks : List Str} {k : Int} (hp : PenOk m o) (hm : m + 300 ≤ 1048576) (hk : 1 ≤ k ∧ k ≤ 6) (hn : ks.length ≤ 6) (nd : ks.Nodup) (ok : ∀ s ∈ ks, okName s ∧ s ≠ "qq") :
    ∃ (B : List (Str × List Int)) (o' : Ob), F__law_bounds [.ref 0, .lst (ks.map .str), .int k] (o :: T) = some (.ok (.tup (B.map boundD)) (o' :: T)) ∧ PenOk (m + 300) o' ∧ okB B := by
  obtain ⟨o1, B1, z, e1, p1, h1, l1⟩ := bound_loop (T := T) (x := some (.lst (ks.map .str))) hk ks (o := o) (m := m) (B := []) (seen := []) (y := none) hp (by omega) (by simp; omega) ⟨List.Sublist.refl _, fun b hb => nomatch hb⟩
  rw [List.nil_append] at h1
  have nd1 : (B1.map (·.1)).Nodup := h1.1.nodup nd
  have mem1 : ∀ b ∈ B1, okName b.1 ∧ b.1 ≠ "qq" := fun b hb => ok _ (h1.1.subset (List.mem_map.mpr ⟨b, hb, rfl⟩))
  have l1' : B1.length ≤ 6 := by simp at l1; omega
  obtain ⟨d, o2, e2, a2, b2, p2⟩ := drawP (T := T ++ [.lst (B1.map boundD)]) (k := 4) p1 (by omega) (by omega)
  have hd : (upto 0 0) = [] := rfl
  simp only [List.map_nil] at e1
  by_cases h : d = 0
  · subst h
    refine ⟨B1 ++ [(("qq" : Str), ([1] : List Int))], o2, ?_, p2.mono (by omega), ?_, by rw [List.length_append, List.length_singleton]; omega, fun b hb => ?_⟩
    · refine cut_ok (X := [.lst ((B1 ++ [(("qq" : Str), ([1] : List Int))]).map boundD)]) ?_ (lowDs_map _ _ (low_bound _) _) p2.low
      have t1 := ty_ref (at1 (o := o2) (T := T) (A := .lst (B1.map boundD)) (R := []))
      have w1 := app_ref (d := boundD (("qq" : Str), ([1] : List Int))) (at1 (o := o2) (T := T) (A := .lst (B1.map boundD)) (R := [])) (by simp [big_eq]; omega)
      rw [set1] at w1
      have w1' : appendV (.ref (T.length + 1)) [.tup [.str "qq", .tup [.int 1]]] (o2 :: (T ++ [.lst (B1.map boundD)])) = some (.non, o2 :: (T ++ [.lst (B1.map boundD ++ [boundD (("qq" : Str), ([1] : List Int))])])) := w1
      have t2 := tuple_ref (at1 (o := o2) (T := T) (A := .lst (B1.map boundD ++ [boundD (("qq" : Str), ([1] : List Int))])) (R := []))
      simp [body, d__law_bounds, g1, big_eq, sFor, iSeq, still]
      rw [e1]
      simp [e2, t1, w1', t2, g1]
    · rw [List.map_append]
      refine List.nodup_append.mpr ⟨nd1, by simp, fun a ha b hb => ?_⟩
      rw [List.mem_singleton.mp hb]
      obtain ⟨c, hc, e⟩ := List.mem_map.mp ha
      rw [← e]
      exact (mem1 c hc).2
    · rcases List.mem_append.mp hb with z | z
      · exact ⟨(mem1 b z).1, h1.2 b z⟩
      · rw [List.mem_singleton.mp z]
        exact ⟨by show ("qq" : Str) ∈ NAMES; decide +kernel, by decide, by decide, by decide, by unfold okI; decide⟩
  · refine ⟨B1, o2, ?_, p2.mono (by omega), nd1, by omega, fun b hb => ⟨(mem1 b hb).1, h1.2 b hb⟩⟩
    refine cut_ok (X := [.lst (B1.map boundD)]) ?_ (lowDs_map _ _ (low_bound _) _) p2.low
    have t2 := tuple_ref (at1 (o := o2) (T := T) (A := .lst (B1.map boundD)) (R := []))
    simp [body, d__law_bounds, g1, big_eq, sFor, iSeq, still]
    rw [e1]
    simp [e2, h, t2, g1]
end Cw

set_option maxRecDepth 100000
set_option maxHeartbeats 2000000
set_option linter.all false
/-! k76: a book is drawn. -/
namespace Cw
open PySem PySem.Spec PyProof.Rows L2
theorem books {m : Nat} {o : Ob} {T : Sto} (hp : PenOk m o) (hm : m + 2000 ≤ 1048576) :
    ∃ (W : List Wsh) (B : List (Str × List Int)) (z : D) (o' : Ob), F__law_books [.ref 0, .int 4, .int 4] (o :: T) = some (.ok (.tup [bookD W B, z]) (o' :: T)) ∧ PenOk (m + 2000) o' ∧ okBook W B := by
  obtain ⟨d1, o1, e1, a1, b1, p1⟩ := drawP (T := T) (k := 5) hp (by omega) (by omega)
  obtain ⟨k1, o2, e2, p2, n2, m2, l2⟩ := kinds (T := T) (k := d1) p1 (by omega) (by omega)
  obtain ⟨d3, o3, e3, a3, b3, p3⟩ := drawP (T := T) (k := 5) p2 (by omega) (by omega)
  obtain ⟨k4, o4, e4, p4, n4, m4, l4⟩ := kinds (T := T) (k := d3) p3 (by omega) (by omega)
  obtain ⟨W5, o5, e5, p5, h5, l5⟩ := wishes (T := T) (k := 4) p4 (by omega) (by omega) (by omega) n2 fun s hs => (m2 s hs).1
  obtain ⟨B6, o6, e6, p6, h6⟩ := bounds (T := T) (k := 4) p5 (by omega) (by omega) (by omega) n4 m4
  obtain ⟨W7, o7, e7, p7, h7, l7⟩ := wishes (T := T) (k := 4) p6 (by omega) (by omega) (by omega) n4 fun s hs => (m4 s hs).1
  obtain ⟨B8, o8, e8, p8, h8⟩ := bounds (T := T) (k := 4) p7 (by omega) (by omega) (by omega) n2 m2
  refine ⟨W5, B6, bookD W7 B8, o8, ?_, p8.mono (by omega), h5, by omega, h6⟩
  simp [F__law_books, body, d__law_books, big_eq, e1, e2, e3, e4, e5, e6, e7, e8, bookD]

abbrev WH : List D := [.int 0, .int 9999, .int 1, .int 5000, .int 10, .int 7]
theorem rot {t : Int} (h : 0 ≤ t ∧ t < 6) (S : Sto) : ∃ (a b : List D) (ws : List Int), slV (.lst WH) (some t) none S = some (.lst a, S) ∧ slV (.lst WH) none (some t) S = some (.lst b, S) ∧ addV (.lst a) (.lst b) S = some (.lst (ws.map .int), S) ∧ okWs ws := by
  have : t = 0 ∨ t = 1 ∨ t = 2 ∨ t = 3 ∨ t = 4 ∨ t = 5 := by omega
  have ok : ∀ ws : List Int, (decide (1 ≤ ws.length) && decide (ws.length ≤ 6) && decide ws.Nodup && ws.all fun i => decide (0 ≤ i) && decide (i ≤ 9999)) = true → okWs ws := fun ws h => by
    simp only [Bool.and_eq_true, decide_eq_true_eq, List.all_eq_true] at h
    exact ⟨h.1.1.1, h.1.1.2, h.1.2, h.2⟩
  rcases this with e | e | e | e | e | e <;> subst e
  · exact ⟨_, _, [0, 9999, 1, 5000, 10, 7], rfl, rfl, rfl, ok _ (by decide)⟩
  · exact ⟨_, _, [9999, 1, 5000, 10, 7, 0], rfl, rfl, rfl, ok _ (by decide)⟩
  · exact ⟨_, _, [1, 5000, 10, 7, 0, 9999], rfl, rfl, rfl, ok _ (by decide)⟩
  · exact ⟨_, _, [5000, 10, 7, 0, 9999, 1], rfl, rfl, rfl, ok _ (by decide)⟩
  · exact ⟨_, _, [10, 7, 0, 9999, 1, 5000], rfl, rfl, rfl, ok _ (by decide)⟩
  · exact ⟨_, _, [7, 0, 9999, 1, 5000, 10], rfl, rfl, rfl, ok _ (by decide)⟩
theorem wh_at {t : Int} (h : 0 ≤ t ∧ t < 6) (S : Sto) : ∃ v : Int, ixV (.lst WH) (.int t) S = some (.int v, S) ∧ okI v := by
  have : t = 0 ∨ t = 1 ∨ t = 2 ∨ t = 3 ∨ t = 4 ∨ t = 5 := by omega
  unfold okI
  rcases this with e | e | e | e | e | e <;> subst e
  · exact ⟨0, rfl, by decide⟩
  · exact ⟨9999, rfl, by decide⟩
  · exact ⟨1, rfl, by decide⟩
  · exact ⟨5000, rfl, by decide⟩
  · exact ⟨10, rfl, by decide⟩
  · exact ⟨7, rfl, by decide⟩
noncomputable abbrev gNeed : DS := sIf (tAndD (asT (dOp gtV (dVar 4) (dC (.int 0)))) (asT (dOp eqV' (dCall F__law_draw 2 [] (aCons (dVar 0) (aCons (dC (.int 2)) (aNil)))) (dC (.int 0))))) (sAsg (dTup (aCons (dOp ixV (dVar 1) (dCall F__law_draw 2 [] (aCons (dVar 0) (aCons (dVar 4) (aNil))))) (aCons (dOp ixV (dVar 2) (dCall F__law_draw 2 [] (aCons (dVar 0) (aCons (dC (.int 6)) (aNil))))) (aNil)))) (gNm 7)) (sNext)
theorem gr_need {m : Nat} {o : Ob} {T : Sto} {ks seen : List Str} {i : Nat} {r s t : Option D} (hp : PenOk m o) (hm : m + 3 ≤ 1048576) (hs : seen = ks.take i) (hi : i ≤ ks.length) (hl : ks.length ≤ 10) (ok : ∀ s ∈ ks, okName s) :
    ∃ (o' : Ob) (nd : Option (Str × Int)), gNeed [some (.ref 0), some (.lst (ks.map .str)), some (.lst WH), r, some (.int (i : Int)), s, t, some .non] (o :: T) =
      some (.nx [some (.ref 0), some (.lst (ks.map .str)), some (.lst WH), r, some (.int (i : Int)), s, t, some (needsD nd)] (o' :: T)) ∧ PenOk (m + 3) o' ∧ okNeeds seen nd := by
  by_cases h0 : 0 < i
  · obtain ⟨d1, o1, e1, a1, b1, p1⟩ := drawP (T := T) (k := 2) hp (by omega) (by omega)
    by_cases hd : d1 = 0
    · subst hd
      obtain ⟨d2, o2, e2, a2, b2, p2⟩ := drawP (T := T) (k := (i : Int)) p1 (by omega) (by omega)
      obtain ⟨d3, o3, e3, a3, b3, p3⟩ := drawP (T := T) (k := 6) p2 (by omega) (by omega)
      have h2 : d2.toNat < ks.length := by omega
      have ix2 := ix_lst (S := o2 :: T) (ds := ks.map .str) a2 (by simp; omega)
      rw [getD_map D.str h2] at ix2
      obtain ⟨v, ix3, hv⟩ := wh_at ⟨a3, b3⟩ (o3 :: T)
      refine ⟨o3, some (ks[d2.toNat], v), ?_, p3.mono (by omega), ?_, ok _ (List.getElem_mem h2), hv⟩
      · simp [h0, e1, e2, ix2, e3, ix3, big_eq, needsD]
      · rw [hs]
        exact List.mem_take_iff_getElem.mpr ⟨d2.toNat, by omega, rfl⟩
    · refine ⟨o1, none, ?_, p1.mono (by omega), trivial⟩
      simp [h0, e1, hd, needsD]
  · refine ⟨o, none, ?_, hp.mono (by omega), trivial⟩
    simp [h0, needsD]
noncomputable abbrev gTurn : DS := sSeq (sAsg (dCall F__law_draw 2 [] (aCons (dVar 0) (aCons (dC (.int 6)) (aNil)))) (gNm 6)) (sSeq (sAsg (dC .non) (gNm 7)) (sSeq gNeed (sExpr (dMt "list" appendV (dVar 3) (aCons (dTup (aCons (dVar 5) (aCons (dCB (g1 tuple1) (aCons (dOp addV (dSl (dVar 2) (some (dVar 6)) none) (dSl (dVar 2) none (some (dVar 6)))) (aNil))) (aCons (dOp eqV' (dCall F__law_draw 2 [] (aCons (dVar 0) (aCons (dC (.int 2)) (aNil)))) (dC (.int 0))) (aCons (dVar 7) (aNil)))))) (aNil))))))
theorem great_turn {m : Nat} {o : Ob} {T : Sto} {ks : List Str} {W : List Wsh} {i : Nat} {s : Str} {y6 y7 : Option D} (hp : PenOk m o) (hm : m + 10 ≤ 1048576) (hi : i ≤ ks.length) (hl : ks.length ≤ 10) (ok : ∀ s ∈ ks, okName s) (hW : W.length ≤ 10) :
    ∃ (o' : Ob) (w : Wsh) (z6 z7 : Option D), gTurn [some (.ref 0), some (.lst (ks.map .str)), some (.lst WH), some (.ref (T.length + 1)), some (.int (i : Int)), some (.str s), y6, y7] (o :: (T ++ [.lst (W.map Wsh.d)])) =
      some (.nx [some (.ref 0), some (.lst (ks.map .str)), some (.lst WH), some (.ref (T.length + 1)), some (.int (i : Int)), some (.str s), z6, z7] (o' :: (T ++ [.lst ((W ++ [w]).map Wsh.d)]))) ∧ PenOk (m + 10) o' ∧ w.k = s ∧ okNeeds (ks.take i) w.needs ∧ okWs w.ws := by
  obtain ⟨t, o1, e1, a1, b1, p1⟩ := drawP (T := T ++ [.lst (W.map Wsh.d)]) (k := 6) hp (by omega) (by omega)
  obtain ⟨o2, nd, e2, p2, hn⟩ := gr_need (T := T ++ [.lst (W.map Wsh.d)]) (r := some (.ref (T.length + 1))) (s := some (.str s)) (t := some (.int t)) p1 (by omega) rfl hi hl ok
  obtain ⟨a, b, ws, s1, s2, s3, hw⟩ := rot ⟨a1, b1⟩ (o2 :: (T ++ [.lst (W.map Wsh.d)]))
  obtain ⟨d3, o3, e3, a3, b3, p3⟩ := drawP (T := T ++ [.lst (W.map Wsh.d)]) (k := 2) p2 (by omega) (by omega)
  have t1 := fun o => ty_ref (at1 (o := o) (T := T) (A := .lst (W.map Wsh.d)) (R := []))
  have w1 := app_ref (d := Wsh.d ⟨s, ws, decide (d3 = 0), nd⟩) (at1 (o := o3) (T := T) (A := .lst (W.map Wsh.d)) (R := [])) (by simp [big_eq]; omega)
  rw [set1] at w1
  have w1' : appendV (.ref (T.length + 1)) [.tup [.str s, worthsD ws, .bl (decide (d3 = 0)), needsD nd]] (o3 :: (T ++ [.lst (W.map Wsh.d)])) = some (.non, o3 :: (T ++ [.lst (W.map Wsh.d ++ [Wsh.d ⟨s, ws, decide (d3 = 0), nd⟩])])) := w1
  have tu : ∀ S, tuple1 (.lst (ws.map .int)) S = some (worthsD ws, S) := fun S => rfl
  refine ⟨o3, ⟨s, ws, decide (d3 = 0), nd⟩, some (.int t), some (needsD nd), ?_, p3.mono (by omega), rfl, hn, hw⟩
  rw [show gTurn = sSeq (sAsg (dCall F__law_draw 2 [] (aCons (dVar 0) (aCons (dC (.int 6)) (aNil)))) (gNm 6)) (sSeq (sAsg (dC .non) (gNm 7)) (sSeq gNeed (sExpr (dMt "list" appendV (dVar 3) (aCons (dTup (aCons (dVar 5) (aCons (dCB (g1 tuple1) (aCons (dOp addV (dSl (dVar 2) (some (dVar 6)) none) (dSl (dVar 2) none (some (dVar 6)))) (aNil))) (aCons (dOp eqV' (dCall F__law_draw 2 [] (aCons (dVar 0) (aCons (dC (.int 2)) (aNil)))) (dC (.int 0))) (aCons (dVar 7) (aNil)))))) (aNil)))))) from rfl]
  generalize hN : gNeed = N at e2
  generalize WH = wh at s1 s2 e2 ⊢
  simp [g1, big_eq, e1, e2, t1, s1, s2, s3, tu, e3, w1', List.map_append]
theorem great_loop {T : Sto} {ks : List Str} (hl : ks.length ≤ 10) (ok : ∀ s ∈ ks, okName s) (nd : ks.Nodup) : ∀ (r : List Str) {m : Nat} {o : Ob} {W : List Wsh} {y4 y5 y6 y7 : Option D}, ks = W.map Wsh.k ++ r → PenOk m o → m + 10 * r.length ≤ 1048576 → okL [] W →
    ∃ (o' : Ob) (W' : List Wsh) (z4 z5 z6 z7 : Option D), forD (gSeq 2 (gsCons (gNm 4) (gsCons (gNm 5) (gsNil)))) gTurn (numd (W.length : Int) (r.map .str)) [some (.ref 0), some (.lst (ks.map .str)), some (.lst WH), some (.ref (T.length + 1)), y4, y5, y6, y7] (o :: (T ++ [.lst (W.map Wsh.d)])) =
      some (.nx [some (.ref 0), some (.lst (ks.map .str)), some (.lst WH), some (.ref (T.length + 1)), z4, z5, z6, z7] (o' :: (T ++ [.lst (W'.map Wsh.d)]))) ∧ PenOk (m + 10 * r.length) o' ∧ okL [] W' ∧ W'.length = W.length + r.length
  | [], m, o, W, y4, y5, y6, y7, hk, hp, hm, hW => ⟨o, W, y4, y5, y6, y7, rfl, hp, hW, rfl⟩
  | s :: r, m, o, W, y4, y5, y6, y7, hk, hp, hm, hW => by
    rw [List.length_cons] at hm
    have len : ks.length = W.length + (r.length + 1) := by rw [hk]; simp
    obtain ⟨o1, w, z6, z7, e1, p1, hw1, hw2, hw3⟩ := great_turn (T := T) (W := W) (i := W.length) (s := s) (y6 := y6) (y7 := y7) hp (by omega) (by omega) hl ok (by omega)
    have seen : ks.take W.length = W.map Wsh.k := by
      rw [hk, ← List.length_map (as := W) Wsh.k, List.take_left]
    rw [seen] at hw2
    have hnk : w.k ∉ [] ++ W.map Wsh.k := by
      rw [hw1, List.nil_append]
      rw [hk] at nd
      intro z
      exact (List.nodup_append.mp nd).2.2 s z s List.mem_cons_self rfl
    have okw : okName w.k := by
      rw [hw1]
      exact ok s (by rw [hk]; exact List.mem_append_right _ List.mem_cons_self)
    have hW1 := okL_snoc hW hnk hw2 ⟨okw, hw3⟩
    obtain ⟨o2, W2, v4, v5, v6, v7, e2, p2, h2, l2⟩ := great_loop (T := T) hl ok nd r (W := W ++ [w]) (y4 := some (.int (W.length : Int))) (y5 := some (.str s)) (y6 := z6) (y7 := z7) (by rw [hk, List.map_append, List.append_assoc, ← hw1]; rfl) p1 (by omega) hW1
    refine ⟨o2, W2, v4, v5, v6, v7, ?_, p2.mono (by rw [List.length_cons]; omega), h2, by rw [l2, List.length_append, List.length_singleton, List.length_cons]; omega⟩
    have g : gSeq 2 (gsCons (gNm 4) (gsCons (gNm 5) (gsNil))) (.tup [.int (W.length : Int), .str s]) [some (.ref 0), some (.lst (ks.map .str)), some (.lst WH), some (.ref (T.length + 1)), y4, y5, y6, y7] (o :: (T ++ [.lst (W.map Wsh.d)])) = some [some (.ref 0), some (.lst (ks.map .str)), some (.lst WH), some (.ref (T.length + 1)), some (.int (W.length : Int)), some (.str s), y6, y7] := rfl
    rw [List.map_cons, numd, for_at g, e1]
    rw [List.length_append, List.length_singleton] at e2
    exact e2
theorem great {m : Nat} {o : Ob} {T : Sto} (hp : PenOk m o) (hm : m + 100 ≤ 1048576) :
    ∃ (W : List Wsh) (o' : Ob), F__law_great [.ref 0] (o :: T) = some (.ok (.tup (W.map Wsh.d)) (o' :: T)) ∧ PenOk (m + 100) o' ∧ okL [] W ∧ W.length ≤ 6 := by
  obtain ⟨ks, o1, e1, p1, n1, m1, l1⟩ := kinds (T := T) (k := 6) hp (by omega) (by omega)
  have l1' : ks.length = 6 := l1
  obtain ⟨o2, W, z4, z5, z6, z7, e2, p2, h2, l2⟩ := great_loop (T := T) (by omega) (fun s hs => (m1 s hs).1) n1 ks (W := []) (y4 := none) (y5 := none) (y6 := none) (y7 := none) rfl p1 (by omega) trivial
  refine ⟨W, o2, ?_, p2.mono (by omega), h2, by rw [l2, l1']; decide⟩
  refine cut_ok (X := [.lst (W.map Wsh.d)]) ?_ (lowDs_map _ _ (low_wsh _) _) p2.low
  have t2 := tuple_ref (at1 (o := o2) (T := T) (A := .lst (W.map Wsh.d)) (R := []))
  simp only [List.map_nil, List.length_nil, Int.ofNat_zero] at e2
  simp [body, d__law_great, g1, big_eq, e1, sFor, iNumD0, num1, stillL]
  rw [e2]
  simp [t2, g1]
theorem any_book {m : Nat} {o : Ob} {T : Sto} (hp : PenOk m o) (hm : m + 3000 ≤ 1048576) :
    ∃ (W : List Wsh) (B : List (Str × List Int)) (o' : Ob), F__law_any_book [.ref 0] (o :: T) = some (.ok (bookD W B) (o' :: T)) ∧ PenOk (m + 3000) o' ∧ okBook W B := by
  obtain ⟨W1, B1, z, o1, e1, p1, h1⟩ := books (T := T) hp (by omega)
  obtain ⟨d, o2, e2, a2, b2, p2⟩ := drawP (T := T) (k := 8) p1 (by omega) (by omega)
  have ix : ∀ S, ixV (.tup [bookD W1 B1, z]) (.int 0) S = some (bookD W1 B1, S) := fun S => rfl
  by_cases hd : 0 < d
  · refine ⟨W1, B1, o2, ?_, p2.mono (by omega), h1⟩
    simp [F__law_any_book, body, d__law_any_book, e1, ix, e2, hd]
  · obtain ⟨W, o3, e3, p3, h3, l3⟩ := great (T := T) p2 (by omega)
    obtain ⟨ks, o4, e4, p4, n4, m4, l4⟩ := kinds (T := T) (k := 8) p3 (by omega) (by omega)
    let f : D → D := fun x => .tup [x, .tup [.int 9999, .int 0, .int 10, .int 2, .int 3, .int 4]]
    have e5 := fun (δ : Env) (hδ : δ.length = 3) => lc_map (A := (dTup (aCons (dVar 2) (aCons (dTup (aCons (dC (.int 9999)) (aCons (dC (.int 0)) (aCons (dC (.int 10)) (aCons (dC (.int 2)) (aCons (dC (.int 3)) (aCons (dC (.int 4)) (aNil)))))))) (aNil))))) (vs := [2]) (G := gNm 2) (δ := δ) (S := o4 :: T) (f := f) (ds := ks.map .str) (acc := [])
      (fun d hd => ⟨_, rfl, by
        match δ, hδ with
        | [a, b, c], _ => rfl⟩) (by rw [List.length_map, l4]; show 0 + 8 ≤ big; decide)
    refine ⟨W, ks.map fun s => (s, [9999, 0, 10, 2, 3, 4]), o4, ?_, p4.mono (by omega), h3, l3, ?_, by rw [List.length_map, l4]; decide, fun b hb => ?_⟩
    · simp [F__law_any_book, body, d__law_any_book, e1, ix, e2, hd, e3, e4, big_eq, dLc, iSeq, still]
      rw [e5 _ rfl]
      simp [g1, tuple1, lsOf, lstOf, bookD, f, boundD, worthsD]
    · rw [List.map_map]
      have : ((fun x : Str × List Int => x.1) ∘ fun s : Str => (s, ([9999, 0, 10, 2, 3, 4] : List Int))) = id := rfl
      rw [this, List.map_id]
      exact n4
    · obtain ⟨s, hs, e⟩ := List.mem_map.mp hb
      rw [← e]
      have hw : okWs [9999, 0, 10, 2, 3, 4] := ⟨by decide, by decide, by decide, by unfold okI; decide⟩
      exact ⟨(m4 s hs).1, hw⟩
end Cw

set_option maxRecDepth 100000
set_option maxHeartbeats 2000000
set_option linter.all false
/-! k76: what is written. -/
namespace Cw
open PySem PySem.Spec PyProof.Rows L2

theorem txs_map : ∀ ys : List Str, txs (ys.map .str) = some ys
  | [] => rfl
  | y :: ys => by
    show (txs (ys.map .str)).map (y :: ·) = _
    rw [txs_map ys]
    rfl
theorem join_ok {a : Str} {ys : List Str} {S : Sto} (h : (ys.map (·.length)).sum + ys.length * a.length ≤ 16777216) : joinV (.str a) [.lst (ys.map .str)] S = some (.str (Txt.join a ys), S) := by
  show (match txs (ys.map .str) with
      | some ys => if (ys.map fun y : Str => y.length).sum + ys.length * a.length ≤ 16777216 then some (D.str (Txt.join a ys), S) else none
      | none => none) = _
  rw [txs_map]
  exact if_pos h
theorem join_ref {a : Str} {ys : List Str} {S : Sto} {n : Nat} (hn : S[n]? = some (.lst (ys.map .str))) (h : (ys.map (·.length)).sum + ys.length * a.length ≤ 16777216) : joinV (.str a) [.ref n] S = some (.str (Txt.join a ys), S) := by
  unfold joinV items
  simp only [hn]
  rw [txs_map]
  exact if_pos h
theorem ty_str (s : Str) (S : Sto) : tyD S "str" (.str s) = true := by
  show ("str" == "str") = true
  decide
theorem str_i {i : Int} (h : okI i) (S : Sto) : str1 (.int i) S = some (.str (num i), S) := by
  have hl : i.natAbs.log2 < 1920 := by
    have h1 : i.natAbs < 2 ^ 1920 := by
      have h1 := h.1
      have h2 := h.2
      have : i.natAbs ≤ 9999 := by omega
      exact Nat.lt_of_le_of_lt this (by decide +kernel)
    by_cases hz : i.natAbs = 0
    · rw [hz]
      decide
    · exact (Nat.log2_lt hz).mpr h1
  exact if_pos hl
theorem iadd_ref {S : Sto} {n : Nat} {ds es : List D} (h : S[n]? = some (.lst ds)) (hl : ds.length + es.length ≤ big) : iaddV (.ref n) (.lst es) S = some (.ref n, S.set n (.lst (ds ++ es))) := by
  simp only [iaddV, own_ref h, lstOf]
  exact if_pos hl
def fS : D → D := fun d => match d with
  | .int i => .str (num i)
  | d => d
theorem map_fS (ws : List Int) : (ws.map D.int).map fS = (ws.map num).map .str := by
  rw [List.map_map, List.map_map]
  rfl
theorem join_worths {ws : List Int} (h : okWs ws) (S : Sto) : joinV (.str ",") [.lst ((ws.map num).map .str)] S = some (.str (worthsT ws), S) := by
  refine join_ok ?_
  have z := join_room (a := ",") (B := 4) (ys := ws.map num) fun y hy => by
    obtain ⟨i, hi, e⟩ := List.mem_map.mp hy
    subst e
    exact num_len (h.2.2.2 i hi)
  have := h.2.1
  rw [List.length_map, len_cm] at z
  rw [List.length_map, len_cm]
  omega
theorem showW {ws : List Int} (h : okWs ws) (S : Sto) : F_show_worths [worthsD ws] S = some (.ok (.str (worthsT ws)) S) := by
  have e := lc_map (A := dCB (g1 str1) (aCons (dVar 1) (aNil))) (vs := [1]) (G := gNm 1) (δ := [some (worthsD ws), none]) (S := S) (f := fS) (ds := ws.map .int) (acc := []) (fun d hd => by
    obtain ⟨i, hi, e⟩ := List.mem_map.mp hd
    subst e
    exact ⟨_, rfl, by simp [wipeD, g1, str_i (h.2.2.2 i hi), fS]⟩) (by have := h.2.1; simp [big_eq]; omega)
  rw [map_fS, List.nil_append] at e
  simp [F_show_worths, body, d_show_worths, ty_str, dLc, iSeq, worthsD, still]
  simp only [worthsD] at e
  rw [e]
  simp [join_worths h, -List.map_map]
theorem must_ok (b : Bool) (S : Sto) : mulV (.lst [.str "must"]) (.int (if b = true then 1 else 0)) S = some (.lst ((if b = true then [("must" : Str)] else []).map .str), S) := by
  cases b <;> rfl
theorem room_words {w : Wsh} {seen : List Str} (h : okW w) (h2 : okNeeds seen w.needs) : ((wordsT w).map (·.length)).sum + (wordsT w).length * (" " : Str).length ≤ 16777216 := by
  obtain ⟨h3, h4⟩ := words_len h h2
  have z := join_room (a := " ") h4
  rw [len_sp] at z ⊢
  omega
theorem showWish {w : Wsh} {seen : List Str} (h : okW w) (h2 : okNeeds seen w.needs) (S : Sto) : F_show_wish [w.d] S = some (.ok (.str (wishT w)) S) := by
  obtain ⟨k, ws, must, needs⟩ := w
  let Y0 : List Str := k :: worthsT ws :: (if must = true then [("must" : Str)] else [])
  have r0 : ∀ X : Ob, (S ++ [X])[S.length]? = some X := fun X => by simp
  have l0 : addVO (.lst [.str k, .str (worthsT ws)]) (.lst ((if must = true then [("must" : Str)] else []).map .str)) S = some (.ref S.length, S ++ [.lst (Y0.map .str)]) := by
    cases must <;> rfl
  have sw := showW (ws := ws) h.2 S
  have m0 := must_ok must S
  cases needs with
  | none =>
    have e : wordsT ⟨k, ws, must, none⟩ = Y0 := by
      show k :: worthsT ws :: ((if must = true then [("must" : Str)] else []) ++ []) = _
      rw [List.append_nil]
    have jn := join_ref (a := " ") (r0 (.lst (Y0.map .str))) (by rw [← e]; exact room_words h h2)
    refine cut_pure (X := [.lst (Y0.map .str)]) ?_ rfl
    simp [body, d_show_wish, Wsh.d, gSeq, items, gsCons, gsNil, sw, big_eq, g1, m0, l0, needsD, isNotV2, isNon, ty_str, jn, wishT, e]
  | some p =>
    obtain ⟨a, b⟩ := p
    have e : wordsT ⟨k, ws, must, some (a, b)⟩ = Y0 ++ [("if" : Str), a, num b] := rfl
    have jn := join_ref (a := " ") (r0 (.lst ((Y0 ++ [("if" : Str), a, num b]).map .str))) (by rw [← e]; exact room_words h h2)
    have ia : iaddV (.ref S.length) (.lst [.str "if", .str a, .str (num b)]) (S ++ [.lst (Y0.map .str)]) = some (.ref S.length, S ++ [.lst ((Y0 ++ [("if" : Str), a, num b]).map .str)]) := by
      have lw : Y0.length ≤ 6 := by
        have : (if must = true then [("must" : Str)] else []).length ≤ 1 := by split <;> decide
        show (k :: worthsT ws :: (if must = true then [("must" : Str)] else [])).length ≤ 6
        rw [List.length_cons, List.length_cons]
        omega
      rw [iadd_ref (r0 _) (by rw [List.length_map, big_eq]; show Y0.length + 3 ≤ 1000000; omega), List.set_append_right _ _ (Nat.le_refl _), Nat.sub_self, List.map_append]
      rfl
    refine cut_pure (X := [.lst ((Y0 ++ [("if" : Str), a, num b]).map .str)]) ?_ rfl
    have ix0 : ∀ S, ixV (.tup [.str a, .int b]) (.int 0) S = some (.str a, S) := fun S => rfl
    have ix1 : ∀ S, ixV (.tup [.str a, .int b]) (.int 1) S = some (.int b, S) := fun S => rfl
    simp [body, d_show_wish, Wsh.d, gSeq, items, gsCons, gsNil, sw, big_eq, g1, m0, l0, needsD, isNotV2, isNon, ty_str, dAug, ix0, ix1, str_i h2.2.2]
    rw [ia]
    simp [ty_str, -List.map_append]
    rw [jn]
    simp [wishT, e]
end Cw

set_option maxRecDepth 100000
set_option maxHeartbeats 2000000
set_option linter.all false
/-! k76: a book's text, by the program and by the law. -/
namespace Cw
open PySem PySem.Spec PyProof.Rows L2
theorem add_ss {a b : Str} {S : Sto} (h : a.length + b.length ≤ big) : addV (.str a) (.str b) S = some (.str (a ++ b), S) := if_pos h
def fE : D → D := fun d => match d with
  | .str s => .str (s ++ "\n")
  | d => d
theorem map_fE (L : List Str) : (L.map D.str).map fE = (L.map fun l : Str => l ++ ("\n" : Str)).map .str := by
  rw [List.map_map, List.map_map]
  rfl
theorem end_comp {L : List Str} (h1 : L.length ≤ 16) (h2 : ∀ y ∈ L, y.length ≤ 200) (S : Sto) : lcD [1] (gNm 1) tYesD (dOp addV (dVar 1) (dC (.str "\n"))) (L.map .str) [some (.lst (L.map .str)), none] S [] = some (.ok ((L.map fun l : Str => l ++ ("\n" : Str)).map .str) S) := by
  have e := lc_map (A := dOp addV (dVar 1) (dC (.str "\n"))) (vs := [1]) (G := gNm 1) (δ := [some (.lst (L.map .str)), none]) (S := S) (f := fE) (ds := L.map .str) (acc := []) (fun d hd => by
    obtain ⟨s, hs, e⟩ := List.mem_map.mp hd
    subst e
    have hl := h2 s hs
    exact ⟨_, rfl, by simp [wipeD, add_ss (show s.length + ("\n" : Str).length ≤ big by rw [len_nl, big_eq]; omega), fE]⟩) (by simp [big_eq]; omega)
  rw [map_fE, List.nil_append] at e
  exact e
theorem join_end {L : List Str} (h1 : L.length ≤ 16) (h2 : ∀ y ∈ L, y.length ≤ 200) (S : Sto) : joinV (.str "") [.lst ((L.map fun l : Str => l ++ ("\n" : Str)).map .str)] S = some (.str (endT L), S) := by
  refine join_ok ?_
  have z := join_room (a := "") (B := 201) (ys := L.map fun l : Str => l ++ ("\n" : Str)) fun y hy => by
    obtain ⟨l, hl, e⟩ := List.mem_map.mp hy
    subst e
    rw [Str.length_append, len_nl]
    have := h2 l hl
    omega
  rw [List.length_map, show ("" : Str).length = 0 by decide +kernel] at z
  rw [List.length_map, show ("" : Str).length = 0 by decide +kernel]
  omega
theorem withEnds {L : List Str} (h1 : L.length ≤ 16) (h2 : ∀ y ∈ L, y.length ≤ 200) (S : Sto) : F__law_with_ends [.lst (L.map .str)] S = some (.ok (.str (endT L)) S) := by
  have e := end_comp h1 h2 S
  simp [F__law_with_ends, body, d__law_with_ends, ty_str, dLc, iSeq, still]
  rw [e]
  simp [join_end h1 h2, -List.map_map]
theorem ended {L : List Str} (h1 : L.length ≤ 16) (h2 : ∀ y ∈ L, y.length ≤ 200) (S : Sto) : F_ended [.lst (L.map .str)] S = some (.ok (.str (endT L)) S) := by
  have e := end_comp h1 h2 S
  simp [F_ended, body, d_ended, ty_str, dLc, iSeq, still]
  rw [e]
  simp [join_end h1 h2, -List.map_map]
/-- the law's own way to a wish's text -/
theorem wish_cat (w : Wsh) : wishT w = (match w.needs with
  | none => (if w.must = true then w.k ++ " " ++ worthsT w.ws ++ " must" else w.k ++ " " ++ worthsT w.ws)
  | some (a, b) => (if w.must = true then w.k ++ " " ++ worthsT w.ws ++ " must" else w.k ++ " " ++ worthsT w.ws) ++ " if " ++ a ++ " " ++ num b) := by
  have t1 : TL.tl " must" = TL.tl " " ++ TL.tl "must" := by decide +kernel
  have t2 : TL.tl " if " = TL.tl " " ++ (TL.tl "if" ++ TL.tl " ") := by decide +kernel
  obtain ⟨k, ws, must, needs⟩ := w
  refine TL.ext_tl ?_
  unfold wishT wordsT
  rw [TL.join_eq, TL.tl_join]
  cases must <;> cases needs <;> simp [tailT, TL.joinL, TL.tl_append, t1, t2]
theorem wishText {w : Wsh} {seen : List Str} (h : okW w) (h2 : okNeeds seen w.needs) (S : Sto) : F__law_wish_text [w.d] S = some (.ok (.str (wishT w)) S) := by
  rw [wish_cat]
  obtain ⟨k, ws, must, needs⟩ := w
  have hk := name_len _ h.1
  have hw := worths_len h.2
  have hn := h.2.2.1
  simp only at hk hw hn
  have x0 : ∀ S, ixV (Wsh.d ⟨k, ws, must, needs⟩) (.int 0) S = some (.str k, S) := fun S => rfl
  have x1 : ∀ S, ixV (Wsh.d ⟨k, ws, must, needs⟩) (.int 1) S = some (.tup (ws.map .int), S) := fun S => rfl
  have x2 : ∀ S, ixV (Wsh.d ⟨k, ws, must, needs⟩) (.int 2) S = some (.bl must, S) := fun S => rfl
  have x3 : ∀ S, ixV (Wsh.d ⟨k, ws, must, needs⟩) (.int 3) S = some (needsD needs, S) := fun S => rfl
  have e := lc_map (A := dCB (g1 str1) (aCons (dVar 2) (aNil))) (vs := [2]) (G := gNm 2) (δ := [some (Wsh.d ⟨k, ws, must, needs⟩), none, none]) (S := S) (f := fS) (ds := ws.map .int) (acc := []) (fun d hd => by
    obtain ⟨i, hi, e⟩ := List.mem_map.mp hd
    subst e
    exact ⟨_, rfl, by simp [wipeD, g1, str_i (h.2.2.2.2 i hi), fS]⟩) (by simp [big_eq]; omega)
  rw [map_fS, List.nil_append] at e
  generalize Wsh.d ⟨k, ws, must, needs⟩ = wd at x0 x1 x2 x3 e ⊢
  have l1 : (k ++ " ").length ≤ 9 := by rw [Str.length_append, len_sp]; omega
  have l2 : (k ++ " " ++ worthsT ws).length ≤ 39 := by rw [Str.length_append]; omega
  have lm : (" must" : Str).length = 5 := by decide +kernel
  have li : (" if " : Str).length = 4 := by decide +kernel
  have l3 : (k ++ " " ++ worthsT ws ++ " must").length ≤ 44 := by rw [Str.length_append, lm]; omega
  have a1 : ∀ S, addV (.str k) (.str " ") S = some (.str (k ++ " "), S) := fun S => add_ss (by rw [len_sp, big_eq]; omega)
  have a2 : ∀ S, addV (.str (k ++ " ")) (.str (worthsT ws)) S = some (.str (k ++ " " ++ worthsT ws), S) := fun S => add_ss (by rw [big_eq]; omega)
  have a3 : ∀ S, addV (.str (k ++ " " ++ worthsT ws)) (.str " must") S = some (.str (k ++ " " ++ worthsT ws ++ " must"), S) := fun S => add_ss (by rw [lm, big_eq]; omega)
  have jw := join_worths h.2
  have mid : ∀ t : Str, t.length ≤ 44 → ∀ S', addV (.str t) (.str " if ") S' = some (.str (t ++ " if "), S') := fun t ht S' => add_ss (by rw [li, big_eq]; omega)
  cases needs with
  | none =>
    have x4 : ∀ S, isNotV2 (needsD none) .non S = some (.bl false, S) := fun S => rfl
    cases must with
    | false =>
      simp [F__law_wish_text, body, d__law_wish_text, x0, x1, x2, x3, a1, a2, ty_str, dLc, iSeq, still, -List.map_map]
      rw [e]
      simp [jw, a2, x2, x3, x4, -List.map_map]
    | true =>
      simp [F__law_wish_text, body, d__law_wish_text, x0, x1, x2, x3, a1, a2, ty_str, dLc, iSeq, still, -List.map_map]
      rw [e]
      simp [jw, a2, a3, x2, x3, x4, -List.map_map]
  | some p =>
    obtain ⟨a, b⟩ := p
    have ha := name_len _ h2.2.1
    have hb := num_len h2.2.2
    have x4 : ∀ S, isNotV2 (needsD (some (a, b))) .non S = some (.bl true, S) := fun S => rfl
    have x5 : ∀ S, ixV (needsD (some (a, b))) (.int 0) S = some (.str a, S) := fun S => rfl
    have x6 : ∀ S, ixV (needsD (some (a, b))) (.int 1) S = some (.int b, S) := fun S => rfl
    have tail : ∀ t : Str, t.length ≤ 44 → ∀ S', addV (.str (t ++ " if ")) (.str a) S' = some (.str (t ++ " if " ++ a), S') ∧ addV (.str (t ++ " if " ++ a)) (.str " ") S' = some (.str (t ++ " if " ++ a ++ " "), S') ∧ addV (.str (t ++ " if " ++ a ++ " ")) (.str (num b)) S' = some (.str (t ++ " if " ++ a ++ " " ++ num b), S') := fun t ht S' => by
      have q1 : (t ++ " if ").length ≤ 48 := by rw [Str.length_append, li]; omega
      have q2 : (t ++ " if " ++ a).length ≤ 56 := by rw [Str.length_append]; omega
      have q3 : (t ++ " if " ++ a ++ " ").length ≤ 57 := by rw [Str.length_append, len_sp]; omega
      exact ⟨add_ss (by rw [big_eq]; omega), add_ss (by rw [len_sp, big_eq]; omega), add_ss (by rw [big_eq]; omega)⟩
    cases must with
    | false =>
      have m1 := mid _ (Nat.le_trans l2 (by decide))
      have m2 := fun S' => (tail _ (Nat.le_trans l2 (by decide)) S').1
      have m3 := fun S' => (tail _ (Nat.le_trans l2 (by decide)) S').2.1
      have m4 := fun S' => (tail _ (Nat.le_trans l2 (by decide)) S').2.2
      simp [F__law_wish_text, body, d__law_wish_text, x0, x1, x2, x3, a1, a2, ty_str, dLc, iSeq, still, -List.map_map]
      rw [e]
      simp [jw, a2, x2, x3, x4, x5, x6, m1, m2, m3, m4, g1, str_i h2.2.2, -List.map_map]
    | true =>
      have m1 := mid _ l3
      have m2 := fun S' => (tail _ l3 S').1
      have m3 := fun S' => (tail _ l3 S').2.1
      have m4 := fun S' => (tail _ l3 S').2.2
      simp [F__law_wish_text, body, d__law_wish_text, x0, x1, x2, x3, a1, a2, ty_str, dLc, iSeq, still, -List.map_map]
      rw [e]
      simp [jw, a2, a3, x2, x3, x4, x5, x6, m1, m2, m3, m4, g1, str_i h2.2.2, -List.map_map]
end Cw

set_option maxRecDepth 100000
set_option maxHeartbeats 2000000
set_option linter.all false
/-! k76: all of a book's lines. -/
namespace Cw
open PySem PySem.Spec PyProof.Rows L2
noncomputable abbrev l1Turn : DS := sExpr (dMt "list" appendV (dVar 1) (aCons (dCall F__law_wish_text 1 [] (aCons (dVar 2) (aNil))) (aNil)))
theorem l1_loop {S : Sto} {x z3 z4 z5 : Option D} : ∀ (W : List Wsh) {acc : List Str} {y : Option D}, (∀ w ∈ W, okW w ∧ ∃ s, okNeeds s w.needs) → acc.length + W.length ≤ 100 →
    ∃ y', forD (gNm 2) l1Turn (W.map Wsh.d) [x, some (.ref S.length), y, z3, z4, z5] (S ++ [.lst (acc.map .str)]) = some (.nx [x, some (.ref S.length), y', z3, z4, z5] (S ++ [.lst ((acc ++ W.map wishT).map .str)]))
  | [], acc, y, _, _ => ⟨y, by rw [List.map_nil, List.map_nil, List.append_nil, for_nil]⟩
  | w :: W, acc, y, h, hl => by
    rw [List.length_cons] at hl
    obtain ⟨h1, s, h2⟩ := h w List.mem_cons_self
    have r0 : ∀ X : Ob, (S ++ [X])[S.length]? = some X := fun X => by simp
    obtain ⟨y', e⟩ := l1_loop (S := S) (x := x) (z3 := z3) (z4 := z4) (z5 := z5) W (acc := acc ++ [wishT w]) (y := some w.d) (fun v hv => h v (List.mem_cons_of_mem _ hv)) (by rw [List.length_append, List.length_singleton]; omega)
    refine ⟨y', ?_⟩
    have a1 := app_ref (d := .str (wishT w)) (r0 (.lst (acc.map .str))) (by rw [List.length_map, big_eq]; omega)
    rw [List.set_append_right _ _ (Nat.le_refl _), Nat.sub_self] at a1
    have a1' : appendV (.ref S.length) [.str (wishT w)] (S ++ [.lst (acc.map .str)]) = some (.non, S ++ [.lst ((acc ++ [wishT w]).map .str)]) := by
      rw [a1, List.map_append]
      rfl
    have turn : l1Turn [x, some (.ref S.length), some w.d, z3, z4, z5] (S ++ [.lst (acc.map .str)]) = some (.nx [x, some (.ref S.length), some w.d, z3, z4, z5] (S ++ [.lst ((acc ++ [wishT w]).map .str)])) := by
      simp [l1Turn, ty_ref (r0 _), wishText h1 h2, -List.map_append, a1']
    rw [List.map_cons, for_nm, show ([x, some (.ref S.length), y, z3, z4, z5] : Env).set 2 (some w.d) = [x, some (.ref S.length), some w.d, z3, z4, z5] from rfl, turn]
    rw [List.append_assoc] at e
    exact e
noncomputable abbrev l2Turn : DS := sExpr (dMt "list" appendV (dVar 1) (aCons (dOp addV (dOp addV (dVar 3) (dC (.str " "))) (dMt "str" joinV (dC (.str ",")) (aCons (dLc (iSeq (dVar 4)) [5] (gNm 5) (tYesD) (dCB (g1 str1) (aCons (dVar 5) (aNil)))) (aNil)))) (aNil)))
theorem bound_add {b : Str × List Int} (h : okName b.1) (h2 : okWs b.2) (S : Sto) : addV (.str b.1) (.str " ") S = some (.str (b.1 ++ " "), S) ∧ addV (.str (b.1 ++ " ")) (.str (worthsT b.2)) S = some (.str (boundT b), S) := by
  have hk := name_len _ h
  have hw := worths_len h2
  have l1 : (b.1 ++ " ").length ≤ 9 := by rw [Str.length_append, len_sp]; omega
  exact ⟨add_ss (by rw [len_sp, big_eq]; omega), add_ss (by rw [big_eq]; omega)⟩
theorem l2_loop {S : Sto} {x z2 : Option D} : ∀ (B : List (Str × List Int)) {acc : List Str} {y3 y4 y5 : Option D}, (∀ b ∈ B, okName b.1 ∧ okWs b.2) → acc.length + B.length ≤ 100 →
    ∃ y3' y4' y5', forD (gSeq 2 (gsCons (gNm 3) (gsCons (gNm 4) (gsNil)))) l2Turn (B.map boundD) [x, some (.ref S.length), z2, y3, y4, y5] (S ++ [.lst (acc.map .str)]) = some (.nx [x, some (.ref S.length), z2, y3', y4', y5'] (S ++ [.lst ((acc ++ B.map boundT).map .str)]))
  | [], acc, y3, y4, y5, _, _ => ⟨y3, y4, y5, by rw [List.map_nil, List.map_nil, List.append_nil, for_nil]⟩
  | b :: B, acc, y3, y4, y5, h, hl => by
    rw [List.length_cons] at hl
    obtain ⟨h1, h2⟩ := h b List.mem_cons_self
    have r0 : ∀ X : Ob, (S ++ [X])[S.length]? = some X := fun X => by simp
    obtain ⟨q3, q4, q5, e⟩ := l2_loop (S := S) (x := x) (z2 := z2) B (acc := acc ++ [boundT b]) (y3 := some (.str b.1)) (y4 := some (worthsD b.2)) (y5 := y5) (fun v hv => h v (List.mem_cons_of_mem _ hv)) (by rw [List.length_append, List.length_singleton]; omega)
    refine ⟨q3, q4, q5, ?_⟩
    have a1 := app_ref (d := .str (boundT b)) (r0 (.lst (acc.map .str))) (by rw [List.length_map, big_eq]; omega)
    rw [List.set_append_right _ _ (Nat.le_refl _), Nat.sub_self] at a1
    have a1' : appendV (.ref S.length) [.str (boundT b)] (S ++ [.lst (acc.map .str)]) = some (.non, S ++ [.lst ((acc ++ [boundT b]).map .str)]) := by
      rw [a1, List.map_append]
      rfl
    have ec := lc_map (A := dCB (g1 str1) (aCons (dVar 5) (aNil))) (vs := [5]) (G := gNm 5) (δ := [x, some (.ref S.length), z2, some (.str b.1), some (worthsD b.2), y5]) (S := S ++ [.lst (acc.map .str)]) (f := fS) (ds := b.2.map .int) (acc := []) (fun d hd => by
      obtain ⟨i, hi, e⟩ := List.mem_map.mp hd
      subst e
      exact ⟨_, rfl, by simp [wipeD, g1, str_i (h2.2.2.2 i hi), fS]⟩) (by have := h2.2.1; simp [big_eq]; omega)
    rw [map_fS, List.nil_append] at ec
    have b1 := fun S => (bound_add h1 h2 S).1
    have b2 := fun S => (bound_add h1 h2 S).2
    have turn : l2Turn [x, some (.ref S.length), z2, some (.str b.1), some (worthsD b.2), y5] (S ++ [.lst (acc.map .str)]) = some (.nx [x, some (.ref S.length), z2, some (.str b.1), some (worthsD b.2), y5] (S ++ [.lst ((acc ++ [boundT b]).map .str)])) := by
      have st : still (worthsD b.2) = some (b.2.map .int) := rfl
      simp [l2Turn, ty_ref (r0 _), b1, ty_str, dLc, iSeq, st, -List.map_append, -List.map_map]
      rw [ec]
      simp [join_worths h2, b2, a1', -List.map_append, -List.map_map]
    have g : gSeq 2 (gsCons (gNm 3) (gsCons (gNm 4) (gsNil))) (boundD b) [x, some (.ref S.length), z2, y3, y4, y5] (S ++ [.lst (acc.map .str)]) = some [x, some (.ref S.length), z2, some (.str b.1), some (worthsD b.2), y5] := rfl
    rw [List.map_cons, for_at g, turn]
    rw [List.append_assoc] at e
    exact e
theorem bookLines {W : List Wsh} {B : List (Str × List Int)} (h : okBook W B) (S : Sto) : F__law_book_lines [bookD W B] S = some (.ok (.lst ((linesT W B).map .str)) S) := by
  have h3 := h.2.1
  have h4 := h.2.2.2.1
  obtain ⟨y', e1⟩ := l1_loop (S := S) (x := some (bookD W B)) (z3 := none) (z4 := none) (z5 := none) W (acc := [("wishes" : Str)]) (y := none) (fun w hw => okL_mem h.1 hw) (by show 1 + W.length ≤ 100; omega)
  have r0 : ∀ X : Ob, (S ++ [X])[S.length]? = some X := fun X => by simp
  let A1 : List Str := [("wishes" : Str)] ++ W.map wishT
  have a1 := app_ref (d := .str "bounds") (r0 (.lst (A1.map .str))) (by rw [List.length_map, big_eq]; show ([("wishes" : Str)] ++ W.map wishT : List Str).length < 1000000; rw [List.length_append, List.length_map]; show 1 + W.length < 1000000; omega)
  rw [List.set_append_right _ _ (Nat.le_refl _), Nat.sub_self] at a1
  have a1' : appendV (.ref S.length) [.str "bounds"] (S ++ [.lst (A1.map .str)]) = some (.non, S ++ [.lst ((A1 ++ [("bounds" : Str)]).map .str)]) := by
    rw [a1, List.map_append (l₁ := A1)]
    rfl
  obtain ⟨q3, q4, q5, e2⟩ := l2_loop (S := S) (x := some (bookD W B)) (z2 := y') B (acc := A1 ++ [("bounds" : Str)]) (y3 := none) (y4 := none) (y5 := none) h.2.2.2.2 (by
    show ([("wishes" : Str)] ++ W.map wishT ++ [("bounds" : Str)] : List Str).length + B.length ≤ 100
    rw [List.length_append, List.length_append, List.length_map]
    show 1 + W.length + 1 + B.length ≤ 100
    omega)
  have x0 : ∀ S, ixV (bookD W B) (.int 0) S = some (.tup (W.map Wsh.d), S) := fun S => rfl
  have x1 : ∀ S, ixV (bookD W B) (.int 1) S = some (.tup (B.map boundD), S) := fun S => rfl
  have fin : (A1 ++ [("bounds" : Str)]) ++ B.map boundT = linesT W B := by
    show ([("wishes" : Str)] ++ W.map wishT ++ [("bounds" : Str)]) ++ B.map boundT = ("wishes" : Str) :: (W.map wishT ++ (("bounds" : Str) :: B.map boundT))
    simp
  rw [fin] at e2
  generalize bookD W B = bd at x0 x1 e1 e2 ⊢
  refine cut_list (X := []) ?_ (lowDs_strs _ _)
  have e1' : forD (gNm 2) l1Turn (W.map Wsh.d) [some bd, some (.ref S.length), none, none, none, none] (S ++ [.lst [.str "wishes"]]) = some (.nx [some bd, some (.ref S.length), y', none, none, none] (S ++ [.lst (A1.map .str)])) := e1
  generalize A1 = A1' at e1' a1' e2
  simp [body, d__law_book_lines, big_eq, sFor, iSeq, x0, still, -List.map_append]
  rw [e1']
  simp [ty_ref (r0 _), a1', -List.map_append, x1, still]
  rw [e2]
  simp
theorem wishComp {W : List Wsh} (h : ∀ w ∈ W, okW w ∧ ∃ s, okNeeds s w.needs) (hl : W.length ≤ 100) (S : Sto) (δ : Env) (hδ : δ.length = 7) : lcD [4] (gNm 4) tYesD (dCall F_show_wish 1 [] (aCons (dVar 4) (aNil))) (W.map Wsh.d) δ S [] = some (.ok ((W.map wishT).map .str) S) := by
  match δ, hδ with
  | [a, b, c, d, e, f, g], _ =>
    have key : ∀ (W : List Wsh) (acc : List D), (∀ w ∈ W, okW w ∧ ∃ s, okNeeds s w.needs) → acc.length + W.length ≤ 1000 → lcD [4] (gNm 4) tYesD (dCall F_show_wish 1 [] (aCons (dVar 4) (aNil))) (W.map Wsh.d) [a, b, c, d, e, f, g] S acc = some (.ok (acc ++ (W.map wishT).map .str) S) := by
      intro W
      induction W with
      | nil => intro acc _ _; rw [List.map_nil, List.map_nil, List.map_nil, List.append_nil, lc_end]
      | cons w W ih =>
        intro acc h hl
        rw [List.length_cons] at hl
        obtain ⟨h1, s, h2⟩ := h w List.mem_cons_self
        have t : dCall F_show_wish 1 [] (aCons (dVar 4) (aNil)) ((wipeD [a, b, c, d, e, f, g] [4]).set 4 (some w.d)) S = some (.ok (.str (wishT w)) S) := by
          simp [wipeD, showWish h1 h2]
        rw [List.map_cons, lc_nm, t, bndL_ok, if_pos (by rw [big_eq]; omega), ih _ (fun v hv => h v (List.mem_cons_of_mem _ hv)) (by rw [List.length_append, List.length_singleton]; omega), List.append_assoc]
        rfl
    have z := key W [] h (by rw [List.length_nil]; omega)
    rw [List.nil_append] at z
    exact z
theorem boundComp {B : List (Str × List Int)} (h : ∀ b ∈ B, okName b.1 ∧ okWs b.2) (hl : B.length ≤ 100) (S : Sto) (δ : Env) (hδ : δ.length = 7) : lcD [5, 6] (gSeq 2 (gsCons (gNm 5) (gsCons (gNm 6) (gsNil)))) tYesD (dOp addV (dOp addV (dVar 5) (dC (.str " "))) (dCall F_show_worths 1 [] (aCons (dVar 6) (aNil)))) (B.map boundD) δ S [] = some (.ok ((B.map boundT).map .str) S) := by
  match δ, hδ with
  | [a, b, c, d, e, f, g], _ =>
    have key : ∀ (B : List (Str × List Int)) (acc : List D), (∀ b ∈ B, okName b.1 ∧ okWs b.2) → acc.length + B.length ≤ 1000 → lcD [5, 6] (gSeq 2 (gsCons (gNm 5) (gsCons (gNm 6) (gsNil)))) tYesD (dOp addV (dOp addV (dVar 5) (dC (.str " "))) (dCall F_show_worths 1 [] (aCons (dVar 6) (aNil)))) (B.map boundD) [a, b, c, d, e, f, g] S acc = some (.ok (acc ++ (B.map boundT).map .str) S) := by
      intro B
      induction B with
      | nil => intro acc _ _; rw [List.map_nil, List.map_nil, List.map_nil, List.append_nil, lc_end]
      | cons b0 B ih =>
        intro acc h hl
        rw [List.length_cons] at hl
        obtain ⟨h1, h2⟩ := h b0 List.mem_cons_self
        have b1 := fun S => (bound_add h1 h2 S).1
        have b2 := fun S => (bound_add h1 h2 S).2
        have g0 : gSeq 2 (gsCons (gNm 5) (gsCons (gNm 6) (gsNil))) (boundD b0) (wipeD [a, b, c, d, e, f, g] [5, 6]) S = some [a, b, c, d, e, some (.str b0.1), some (worthsD b0.2)] := rfl
        have t : dOp addV (dOp addV (dVar 5) (dC (.str " "))) (dCall F_show_worths 1 [] (aCons (dVar 6) (aNil))) [a, b, c, d, e, some (.str b0.1), some (worthsD b0.2)] S = some (.ok (.str (boundT b0)) S) := by
          simp [b1, showW h2, b2]
        rw [List.map_cons, lc_at g0, t, bndL_ok, if_pos (by rw [big_eq]; omega), ih _ (fun v hv => h v (List.mem_cons_of_mem _ hv)) (by rw [List.length_append, List.length_singleton]; omega), List.append_assoc]
        rfl
    have z := key B [] h (by rw [List.length_nil]; omega)
    rw [List.nil_append] at z
    exact z
theorem showBook {W : List Wsh} {B : List (Str × List Int)} (h : okBook W B) (S : Sto) : F_show_book [bookD W B] S = some (.ok (.str (bookT W B)) S) := by
  have h3 := h.2.1
  have h4 := h.2.2.2.1
  obtain ⟨h5, h6⟩ := lines_len h
  have c1 := fun δ hδ => wishComp (W := W) (fun w hw => okL_mem h.1 hw) (by omega) S δ hδ
  have c2 := fun δ hδ => boundComp (B := B) h.2.2.2.2 (by omega) S δ hδ
  have en := ended h5 h6 S
  have s1 : addV (.lst [.str "wishes"]) (.lst ((W.map wishT).map .str)) S = some (.lst (([("wishes" : Str)] ++ W.map wishT : List Str).map .str), S) := by
    rw [add_ll (by simp [big_eq]; omega), List.map_append]
    rfl
  have s2 : addV (.lst (([("wishes" : Str)] ++ W.map wishT : List Str).map .str)) (.lst [.str "bounds"]) S = some (.lst (([("wishes" : Str)] ++ W.map wishT ++ [("bounds" : Str)] : List Str).map .str), S) := by
    rw [add_ll (by simp [big_eq]; omega), List.map_append (l₁ := [("wishes" : Str)] ++ W.map wishT)]
    rfl
  have fin : ([("wishes" : Str)] ++ W.map wishT ++ [("bounds" : Str)] : List Str) ++ B.map boundT = linesT W B := by
    show ([("wishes" : Str)] ++ W.map wishT ++ [("bounds" : Str)]) ++ B.map boundT = ("wishes" : Str) :: (W.map wishT ++ (("bounds" : Str) :: B.map boundT))
    simp
  have s3 : addV (.lst (([("wishes" : Str)] ++ W.map wishT ++ [("bounds" : Str)] : List Str).map .str)) (.lst ((B.map boundT).map .str)) S = some (.lst ((linesT W B).map .str), S) := by
    rw [add_ll (by simp [big_eq]; omega), ← List.map_append, fin]
  have it : items S (bookD W B) = some [.tup (W.map Wsh.d), .tup (B.map boundD)] := rfl
  unfold bookT
  generalize bookD W B = bd at it ⊢
  generalize ([("wishes" : Str)] ++ W.map wishT ++ [("bounds" : Str)] : List Str) = L2 at s2 s3
  generalize ([("wishes" : Str)] ++ W.map wishT : List Str) = L1 at s1 s2
  simp [F_show_book, body, d_show_book, gSeq, it, gsCons, gsNil, big_eq, dLc, iSeq, still, -List.map_map, -List.map_append]
  rw [c1 _ rfl]
  simp [s1, s2, -List.map_map, -List.map_append]
  rw [c2 _ rfl]
  simp [s3, en, -List.map_map, -List.map_append]
end Cw

set_option maxRecDepth 100000
set_option maxHeartbeats 2000000
set_option linter.all false
/-! k76: what is told right. -/
namespace Cw
open PySem PySem.Spec PyProof.Rows L2
section
variable {δ : Env} {S : Sto} {A B C : DE} {g h : D → D → Sto → Option (D × Sto)}
@[simp] theorem z_chn : dChn g h A B C δ S = bnd (A δ S) fun x S1 => bnd (B δ S1) fun y S2 => bnd (upS (g x y S2)) fun z S3 => match z with
  | .bl true => bnd (C δ S3) fun x2 S4 => upS (h y x2 S4)
  | .bl false => some (.ok (.bl false) S3)
  | _ => none := rfl
end
theorem kit1 : kitB "tuple" "tuple" = some true := by decide +kernel
theorem kit2 : kitB "str" "str" = some true := by decide +kernel
theorem kit3 : kitB "int" "int" = some true := by decide +kernel
theorem kit4 : kitB "int" "bool" = some false := by decide +kernel
theorem kit5 : kitB "bool" "bool" = some true := by decide +kernel
theorem isi_tup (ds : List D) (S : Sto) : isiV (.tup ds) (.ty "tuple") S = some (.bl true, S) := by
  simp [isiV, tyName, kit1]
theorem isi_str (s : Str) (S : Sto) : isiV (.str s) (.ty "str") S = some (.bl true, S) := by
  simp [isiV, tyName, kit2]
theorem isi_int (s : Int) (S : Sto) : isiV (.int s) (.ty "int") S = some (.bl true, S) := by
  simp [isiV, tyName, kit3]
theorem isi_intb (s : Int) (S : Sto) : isiV (.int s) (.ty "bool") S = some (.bl false, S) := by
  simp [isiV, tyName, kit4]
theorem isi_bool (s : Bool) (S : Sto) : isiV (.bl s) (.ty "bool") S = some (.bl true, S) := by
  simp [isiV, tyName, kit5]
theorem isTuple {ds : List D} {a b : Int} (h1 : a ≤ ds.length) (h2 : (ds.length : Int) ≤ b) (S : Sto) : F_is_tuple [.tup ds, .int a, .int b] S = some (.ok (.bl true) S) := by
  simp [F_is_tuple, body, d_is_tuple, g1, g2, isi_tup, h1, h2]
theorem len_s {s : Str} (h : s.length ≤ big) (S : Sto) : len1 (.str s) S = some (.int s.length, S) := if_pos h
theorem bls_true {α : Type} (l : List α) : bls (l.map fun _ => D.bl true) = some (l.map fun _ => true) := by
  induction l with
  | nil => rfl
  | cons x l ih =>
    show (bls (l.map fun _ => D.bl true)).map (true :: ·) = _
    rw [ih]
    rfl
theorem all_true {α : Type} (l : List α) (S : Sto) : all1 (.lst (l.map fun _ => D.bl true)) S = some (.bl true, S) := by
  unfold all1
  show (bls (l.map fun _ => D.bl true)).map _ = _
  rw [bls_true]
  show some (D.bl ((l.map fun _ => true).all id), S) = _
  rw [List.all_map]
  simp
theorem sgn_in {c : Nat} {z : Str} (h : c ∈ TL.tl z) (S : Sto) : inV' (sgn c) (.str z) S = some (.bl true, S) := by
  show (inB S (sgn c) (.str z)).map _ = _
  have e : inB S (sgn c) (.str z) = some (decide (c ∈ z.cps.toList)) := rfl
  rw [e, decide_eq_true h]
  rfl
/-- all signs of a text are among those of another -/
theorem signs_all {s z : Str} (hl : s.length ≤ big) (h : ∀ c ∈ TL.tl s, c ∈ TL.tl z) (S : Sto) : lcD [1] (gNm 1) tYesD (dOp inV' (dVar 1) (dC (.str z))) (s.cps.toList.map sgn) [some (.str s), none] S [] = some (.ok ((s.cps.toList.map sgn).map fun _ => D.bl true) S) := by
  have e := lc_map (A := dOp inV' (dVar 1) (dC (.str z))) (vs := [1]) (G := gNm 1) (δ := [some (.str s), none]) (S := S) (f := fun _ => D.bl true) (ds := s.cps.toList.map sgn) (acc := []) (fun d hd => by
    obtain ⟨c, hc, e⟩ := List.mem_map.mp hd
    subst e
    exact ⟨_, rfl, by simp [wipeD, sgn_in (h c hc)]⟩) (by
    rw [List.length_map, Array.length_toList]
    show 0 + s.length ≤ big
    omega)
  rw [List.nil_append] at e
  exact e
theorem letters : ∀ s ∈ NAMES, ∀ c ∈ TL.tl s, c ∈ TL.tl "abcdefghijklmnopqrstuvwxyz" := by decide +kernel
theorem isName {s : Str} (h : okName s) (S : Sto) : F_is_name [.str s] S = some (.ok (.bl true) S) := by
  obtain ⟨l1, l2⟩ := name_len s h
  have hl : s.length ≤ big := by rw [big_eq]; omega
  have e := signs_all hl (letters s h) S
  have c1 : (1 : Int) ≤ (s.length : Int) := by omega
  have c2 : (s.length : Int) ≤ 8 := by omega
  simp [F_is_name, body, d_is_name, g1, g2, isi_str, len_s hl, c1, c2, dLc, iStrD, -List.map_map]
  rw [e]
  simp [all_true, -List.map_map]
theorem isWorth {i : Int} (h : okI i) (S : Sto) : F_is_worth [.int i] S = some (.ok (.bl true) S) := by
  have h1 := h.1
  have h2 := h.2
  simp [F_is_worth, body, d_is_worth, g1, g2, isi_int, isi_intb, h1, h2]
theorem intsOf_map : ∀ ws : List Int, intsOf (ws.map .int) = some ws
  | [] => rfl
  | w :: ws => by
    show (intsOf (ws.map .int)).map (w :: ·) = _
    rw [intsOf_map ws]
    rfl
theorem areWorths {ws : List Int} (h : okWs ws) (S : Sto) : F_are_worths [worthsD ws] S = some (.ok (.bl true) S) := by
  have e := lc_map (A := dCall F_is_worth 1 [] (aCons (dVar 1) (aNil))) (vs := [1]) (G := gNm 1) (δ := [some (worthsD ws), none]) (S := S) (f := fun _ => D.bl true) (ds := ws.map .int) (acc := []) (fun d hd => by
    obtain ⟨i, hi, e⟩ := List.mem_map.mp hd
    subst e
    exact ⟨_, rfl, by simp [wipeD, isWorth (h.2.2.2 i hi)]⟩) (by have := h.2.1; simp [big_eq]; omega)
  rw [List.nil_append] at e
  have t := isTuple (ds := ws.map .int) (a := 1) (b := 6) (by have := h.1; simp; omega) (by have := h.2.1; simp; omega) S
  have ls : lenSet1 (worthsD ws) = some (.int ws.length) := by
    show ((intsOf (ws.map .int)).bind fun ns => if ns.length ≤ 4000 then some (D.int (uniq ns).length) else none) = _
    rw [intsOf_map]
    show (if ws.length ≤ 4000 then some (D.int (uniq ws).length) else none) = _
    rw [if_pos (by have := h.2.1; omega), (uniq_len ws).mpr h.2.2.1]
  have st : still (worthsD ws) = some (ws.map .int) := rfl
  have t' : F_is_tuple [worthsD ws, .int 1, .int 6] S = some (.ok (.bl true) S) := t
  have ln : len1 (worthsD ws) S = some (.int ws.length, S) := by
    show some (D.int (ws.map D.int).length, S) = _
    rw [List.length_map]
  generalize worthsD ws = wd at e t' ls st ln ⊢
  simp [F_are_worths, body, d_are_worths, g1, t', dLc, iSeq, st, dLenSet, -List.map_map]
  rw [e]
  simp [all_true, ls, ln, -List.map_map]
theorem isPair {a : Str} {b : Int} (h1 : okName a) (h2 : okI b) (S : Sto) : F_is_pair [.tup [.str a, .int b]] S = some (.ok (.bl true) S) := by
  have t := isTuple (ds := [.str a, .int b]) (a := 2) (b := 2) (by simp) (by simp) S
  have x0 : ∀ S, ixV (.tup [.str a, .int b]) (.int 0) S = some (.str a, S) := fun S => rfl
  have x1 : ∀ S, ixV (.tup [.str a, .int b]) (.int 1) S = some (.int b, S) := fun S => rfl
  simp [F_is_pair, body, d_is_pair, t, x0, x1, isName h1, isWorth h2]
theorem isWish {w : Wsh} {seen : List Str} (h : okW w) (h2 : okNeeds seen w.needs) (S : Sto) : F_is_wish [w.d] S = some (.ok (.bl true) S) := by
  have t := isTuple (ds := [.str w.k, worthsD w.ws, .bl w.must, needsD w.needs]) (a := 4) (b := 4) (by simp) (by simp) S
  have n1 := isName h.1 S
  have n2 := areWorths h.2 S
  cases hn : w.needs with
  | none =>
    simp [F_is_wish, body, d_is_wish, Wsh.d, t, gSeq, items, gsCons, gsNil, n1, n2, g2, isi_bool, isV2, isNon, hn, needsD]
    rw [hn] at t
    simp only [needsD] at t
    rw [t]
    simp [n1, n2, g2, isi_bool, isV2, isNon]
  | some p =>
    obtain ⟨a, b⟩ := p
    rw [hn] at h2
    have n3 := isPair h2.2.1 h2.2.2 S
    rw [hn] at t
    simp only [needsD] at t
    simp [F_is_wish, body, d_is_wish, Wsh.d, gSeq, items, gsCons, gsNil, n1, n2, g2, isi_bool, isV2, isNon, hn, needsD]
    rw [t]
    simp [n1, n2, g2, isi_bool, isV2, isNon, n3]
end Cw

set_option maxRecDepth 100000
set_option maxHeartbeats 2000000
set_option linter.all false
/-! k76: wishes, bounds, books are told right. -/
namespace Cw
open PySem PySem.Spec PyProof.Rows L2
theorem in_strs {s : Str} {S : Sto} {n : Nat} {ks : List Str} (h : S[n]? = some (.lst (ks.map .str))) : inV' (.str s) (.ref n) S = some (.bl (decide (s ∈ ks)), S) := by
  have e : inB S (.str s) (.ref n) = some (inF (.str s) (ks.map .str)) := by
    have hf : flatD (.str s) = true ∧ (ks.map D.str).all flatD = true := ⟨rfl, by
      rw [List.all_map]
      exact List.all_eq_true.mpr fun x _ => rfl⟩
    unfold inB dicOf items
    simp only [h]
    exact if_pos hf
  have f : inF (.str s) (ks.map .str) = decide (s ∈ ks) := by
    unfold inF
    rw [List.any_map]
    rw [Bool.eq_iff_iff, List.any_eq_true, decide_eq_true_iff]
    constructor
    · rintro ⟨x, hx, e⟩
      have e' : (x == s) = true := e
      rw [← eq_of_beq e']
      exact hx
    · intro hm
      exact ⟨s, hm, by show (s == s) = true; exact beq_self_eq_true s⟩
  show (inB S (.str s) (.ref n)).map _ = _
  rw [e, f]
  rfl
theorem notIn_strs {s : Str} {S : Sto} {n : Nat} {ks : List Str} (h : S[n]? = some (.lst (ks.map .str))) : notInV' (.str s) (.ref n) S = some (.bl (!decide (s ∈ ks)), S) := by
  have z := in_strs (s := s) h
  unfold inV' at z
  unfold notInV'
  cases q : inB S (.str s) (.ref n) with
  | none => rw [q] at z; cases z
  | some b =>
    rw [q] at z
    have e : b = decide (s ∈ ks) := by simpa using z
    rw [e]
    rfl
noncomputable abbrev awTurn : DS := sSeq (sIf (tOrD (asT (dOp inV' (dVar 2) (dVar 1))) (tAndD (asT (dOp isNotV2 (dVar 5) (dC .non))) (asT (dOp notInV' (dOp ixV (dVar 5) (dC (.int 0))) (dVar 1))))) (sRet (dC (.bl false))) (sNext)) (sExpr (dMt "list" appendV (dVar 1) (aCons (dVar 2) (aNil))))
theorem aw_loop {S : Sto} {x z6 : Option D} : ∀ (W : List Wsh) {seen : List Str} {y2 y3 y4 y5 : Option D}, okL seen W → seen.length + W.length ≤ 100 →
    ∃ q2 q3 q4 q5, forD (gSeq 4 (gsCons (gNm 2) (gsCons (gNm 3) (gsCons (gNm 4) (gsCons (gNm 5) (gsNil)))))) awTurn (W.map Wsh.d) [x, some (.ref S.length), y2, y3, y4, y5, z6] (S ++ [.lst (seen.map .str)]) =
      some (.nx [x, some (.ref S.length), q2, q3, q4, q5, z6] (S ++ [.lst ((seen ++ W.map Wsh.k).map .str)]))
  | [], seen, y2, y3, y4, y5, _, _ => ⟨y2, y3, y4, y5, by rw [List.map_nil, List.map_nil, List.append_nil, for_nil]⟩
  | w :: W, seen, y2, y3, y4, y5, h, hl => by
    rw [List.length_cons] at hl
    obtain ⟨h1, h2, h3, h4⟩ := h
    have r0 : ∀ X : Ob, (S ++ [X])[S.length]? = some X := fun X => by simp
    obtain ⟨q2, q3, q4, q5, e⟩ := aw_loop (S := S) (x := x) (z6 := z6) W (seen := seen ++ [w.k]) (y2 := some (.str w.k)) (y3 := some (worthsD w.ws)) (y4 := some (.bl w.must)) (y5 := some (needsD w.needs)) h4 (by rw [List.length_append, List.length_singleton]; omega)
    refine ⟨q2, q3, q4, q5, ?_⟩
    have g : gSeq 4 (gsCons (gNm 2) (gsCons (gNm 3) (gsCons (gNm 4) (gsCons (gNm 5) (gsNil))))) w.d [x, some (.ref S.length), y2, y3, y4, y5, z6] (S ++ [.lst (seen.map .str)]) = some [x, some (.ref S.length), some (.str w.k), some (worthsD w.ws), some (.bl w.must), some (needsD w.needs), z6] := rfl
    have i1 := in_strs (s := w.k) (r0 (.lst (seen.map .str)))
    rw [decide_eq_false h1] at i1
    have a1 := app_ref (d := .str w.k) (r0 (.lst (seen.map .str))) (by rw [List.length_map, big_eq]; omega)
    rw [List.set_append_right _ _ (Nat.le_refl _), Nat.sub_self] at a1
    have a1' : appendV (.ref S.length) [.str w.k] (S ++ [.lst (seen.map .str)]) = some (.non, S ++ [.lst ((seen ++ [w.k]).map .str)]) := by
      rw [a1, List.map_append]
      rfl
    have turn : awTurn [x, some (.ref S.length), some (.str w.k), some (worthsD w.ws), some (.bl w.must), some (needsD w.needs), z6] (S ++ [.lst (seen.map .str)]) = some (.nx [x, some (.ref S.length), some (.str w.k), some (worthsD w.ws), some (.bl w.must), some (needsD w.needs), z6] (S ++ [.lst ((seen ++ [w.k]).map .str)])) := by
      cases hn : w.needs with
      | none =>
        have b1 : ∀ S, isNotV2 (needsD none) .non S = some (.bl false, S) := fun S => rfl
        simp [awTurn, i1, b1, ty_ref (r0 _), a1', -List.map_append]
      | some p =>
        obtain ⟨a, b⟩ := p
        rw [hn] at h2
        have b1 : ∀ S, isNotV2 (needsD (some (a, b))) .non S = some (.bl true, S) := fun S => rfl
        have b2 : ∀ S, ixV (needsD (some (a, b))) (.int 0) S = some (.str a, S) := fun S => rfl
        have i2 := notIn_strs (s := a) (r0 (.lst (seen.map .str)))
        rw [decide_eq_true h2.1] at i2
        have i2' : notInV' (.str a) (.ref S.length) (S ++ [.lst (seen.map .str)]) = some (.bl false, S ++ [.lst (seen.map .str)]) := i2
        simp [awTurn, i1, b1, b2, i2', ty_ref (r0 _), a1', -List.map_append]
    rw [List.map_cons, for_at g, turn]
    rw [List.append_assoc] at e
    exact e
theorem areWishes {W : List Wsh} (h : okL [] W) (hl : W.length ≤ 6) (S : Sto) : F_are_wishes [.tup (W.map Wsh.d)] S = some (.ok (.bl true) S) := by
  obtain ⟨q2, q3, q4, q5, e1⟩ := aw_loop (S := S) (x := some (.tup (W.map Wsh.d))) (z6 := none) W (seen := []) (y2 := none) (y3 := none) (y4 := none) (y5 := none) h (by show 0 + W.length ≤ 100; omega)
  have t := isTuple (ds := W.map Wsh.d) (a := 0) (b := 6) (by simp) (by simp; omega) S
  have e := lc_map (A := dCall F_is_wish 1 [] (aCons (dVar 6) (aNil))) (vs := [6]) (G := gNm 6) (δ := [some (.tup (W.map Wsh.d)), none, none, none, none, none, none]) (S := S) (f := fun _ => D.bl true) (ds := W.map Wsh.d) (acc := []) (fun d hd => by
    obtain ⟨w, hw, e⟩ := List.mem_map.mp hd
    subst e
    obtain ⟨h1, s, h2⟩ := okL_mem h hw
    exact ⟨_, rfl, by simp [wipeD, isWish h1 h2]⟩) (by simp [big_eq]; omega)
  rw [List.nil_append] at e
  refine cut_pure (X := [.lst ((W.map Wsh.k).map .str)]) ?_ rfl
  have st : still (.tup (W.map Wsh.d)) = some (W.map Wsh.d) := rfl
  rw [List.nil_append] at e1
  simp only [List.map_nil] at e1
  generalize D.tup (W.map Wsh.d) = wd at e e1 t st ⊢
  simp [body, d_are_wishes, t, dLc, iSeq, st, big_eq, sFor, g1, -List.map_map]
  rw [e]
  simp [all_true, st, sFor, iSeq, -List.map_map]
  rw [e1]
theorem isBound {b : Str × List Int} (h : okName b.1) (h2 : okWs b.2) (S : Sto) : F_is_bound [boundD b] S = some (.ok (.bl true) S) := by
  have t : F_is_tuple [boundD b, .int 2, .int 2] S = some (.ok (.bl true) S) := isTuple (ds := [.str b.1, worthsD b.2]) (a := 2) (b := 2) (by simp) (by simp) S
  have x0 : ∀ S, ixV (boundD b) (.int 0) S = some (.str b.1, S) := fun S => rfl
  have x1 : ∀ S, ixV (boundD b) (.int 1) S = some (worthsD b.2, S) := fun S => rfl
  simp [F_is_bound, body, d_is_bound, t, x0, x1, isName h, areWorths h2]
theorem sk_at {vs : List Nat} {G : DG} {A : DE} {d : D} {ds : List D} {δ δ1 : Env} {S : Sto} {acc : List Key} {key : Key} {y : D} (h : G d (wipeD δ vs) S = some δ1) (h2 : A δ1 S = some (.ok y S)) (h3 : kOf y = some key) (h4 : acc.length < 4000) : skD vs G tYesD A (d :: ds) δ S acc = skD vs G tYesD A ds δ S (if hasK acc key = true then acc else acc ++ [key]) := by
  show (match G d (wipeD δ vs) S with
    | none => none
    | some δ1 => bndL (tYesD δ1 S) fun b S1 => if b = true then bndL (A δ1 S1) fun y S2 => match kOf y with
        | some key => if acc.length < 4000 then skD vs G tYesD A ds δ S2 (if hasK acc key = true then acc else acc ++ [key]) else none
        | none => none
      else skD vs G tYesD A ds δ S1 acc) = _
  rw [h]
  show bndL (A δ1 S) _ = _
  rw [h2, bndL_ok, h3]
  exact if_pos h4
theorem sk_loop {S : Sto} {x y1 y2 y3 : Option D} : ∀ (B : List (Str × List Int)) {acc : List Key}, (∀ b ∈ B, hasK acc (.inr b.1) = false) → (B.map (·.1)).Nodup → acc.length + B.length ≤ 1000 →
    skD [2, 3] (gSeq 2 (gsCons (gNm 2) (gsCons (gNm 3) (gsNil)))) tYesD (dVar 2) (B.map boundD) [x, y1, y2, y3] S acc = some (.ok (acc ++ B.map fun b => .inr b.1) S)
  | [], acc, _, _, _ => by rw [List.map_nil, List.map_nil, List.append_nil]; rfl
  | b :: B, acc, h, hn, hl => by
    rw [List.length_cons] at hl
    rw [List.map_cons] at hn
    obtain ⟨n1, n2⟩ := List.nodup_cons.mp hn
    have h0 := h b List.mem_cons_self
    have ih := sk_loop (S := S) (x := x) (y1 := y1) (y2 := y2) (y3 := y3) B (acc := acc ++ [.inr b.1]) (fun c hc => by
      unfold hasK
      rw [List.any_append]
      have a1 := h c (List.mem_cons_of_mem _ hc)
      unfold hasK at a1
      rw [a1]
      have : b.1 ≠ c.1 := fun e => n1 (by rw [e]; exact List.mem_map.mpr ⟨c, hc, rfl⟩)
      simp [this]) n2 (by rw [List.length_append, List.length_singleton]; omega)
    rw [List.map_cons, sk_at (δ1 := [x, y1, some (.str b.1), some (worthsD b.2)]) (y := .str b.1) (key := .inr b.1) rfl rfl rfl (by omega), h0, if_neg Bool.false_ne_true, ih, List.append_assoc]
    rfl
theorem areBounds {B : List (Str × List Int)} (h : okB B) (S : Sto) : F_are_bounds [.tup (B.map boundD)] S = some (.ok (.bl true) S) := by
  have hl := h.2.1
  have t := isTuple (ds := B.map boundD) (a := 0) (b := 8) (by simp) (by simp; omega) S
  have e := lc_map (A := dCall F_is_bound 1 [] (aCons (dVar 1) (aNil))) (vs := [1]) (G := gNm 1) (δ := [some (.tup (B.map boundD)), none, none, none]) (S := S) (f := fun _ => D.bl true) (ds := B.map boundD) (acc := []) (fun d hd => by
    obtain ⟨b, hb, e⟩ := List.mem_map.mp hd
    subst e
    have z := h.2.2 b hb
    exact ⟨_, rfl, by simp [wipeD, isBound z.1 z.2]⟩) (by simp [big_eq]; omega)
  rw [List.nil_append] at e
  have e2 := sk_loop (S := S) (x := some (.tup (B.map boundD))) (y1 := none) (y2 := none) (y3 := none) B (acc := []) (fun b _ => rfl) h.1 (by show 0 + B.length ≤ 1000; omega)
  have st : still (.tup (B.map boundD)) = some (B.map boundD) := rfl
  have ln : len1 (.tup (B.map boundD)) S = some (.int B.length, S) := by
    show some (D.int (B.map boundD).length, S) = _
    rw [List.length_map]
  generalize D.tup (B.map boundD) = bd at e e2 t st ln ⊢
  simp [F_are_bounds, body, d_are_bounds, t, dLc, iSeq, st, big_eq, g1, -List.map_map]
  rw [e]
  simp [all_true, st, dLenSk, iSeq, -List.map_map]
  rw [e2]
  simp [ln]
theorem isBook {W : List Wsh} {B : List (Str × List Int)} (h : okBook W B) (S : Sto) : F_is_book [bookD W B] S = some (.ok (.bl true) S) := by
  have t : F_is_tuple [bookD W B, .int 2, .int 2] S = some (.ok (.bl true) S) := isTuple (ds := [.tup (W.map Wsh.d), .tup (B.map boundD)]) (a := 2) (b := 2) (by simp) (by simp) S
  have x0 : ∀ S, ixV (bookD W B) (.int 0) S = some (.tup (W.map Wsh.d), S) := fun S => rfl
  have x1 : ∀ S, ixV (bookD W B) (.int 1) S = some (.tup (B.map boundD), S) := fun S => rfl
  simp [F_is_book, body, d_is_book, t, x0, x1, areWishes h.1 h.2.1, areBounds h.2.2]
end Cw

set_option maxRecDepth 100000
set_option maxHeartbeats 2000000
set_option linter.all false
/-! k76: what is read. -/
namespace Cw
open PySem PySem.Spec PyProof.Rows L2
theorem digits_in : ∀ c : Nat, 48 ≤ c → c ≤ 57 → c ∈ TL.tl "0123456789" := fun c h1 h2 => by
  rw [show TL.tl "0123456789" = [48, 49, 50, 51, 52, 53, 54, 55, 56, 57] by decide +kernel]
  simp
  omega
theorem num_pos {i : Int} (h : okI i) : 1 ≤ (num i).length := by
  rw [TL.len_tl, num_tl h.1]
  exact List.length_pos_iff.mpr (TL.numL_ne _)
/-- the first sign of a number's text -/
theorem numL_head : ∀ n : Nat, 0 < n → ∃ c r, TL.numL n = c :: r ∧ c ≠ 48 := fun n => by
  induction n using Nat.strongRecOn with
  | _ n ih =>
    intro h
    by_cases h10 : n < 10
    · exact ⟨48 + n, [], TL.numL_lt h10, by omega⟩
    · obtain ⟨c, r, e, hc⟩ := ih (n / 10) (by omega) (by omega)
      exact ⟨c, r ++ [48 + n % 10], by rw [TL.numL_step (by omega), e]; rfl, hc⟩
theorem ix_str0 {s : Str} {c : Nat} {r : List Nat} (h : TL.tl s = c :: r) (hl : s.length ≤ big) (S : Sto) : ixV (.str s) (.int 0) S = some (.str ⟨#[c]⟩, S) := by
  show (if s.length ≤ big then (L2.atI s.cps.toList 0).map (fun c => (D.str ⟨#[c]⟩, S)) else none) = _
  rw [if_pos hl]
  have h' : s.cps.toList = c :: r := h
  have e : L2.atI (c :: r) 0 = some c := by
    unfold L2.atI
    rw [ixN_nat (by decide) (by simp)]
    rfl
  rw [h', e]
  rfl
theorem zero_tl : TL.tl "0" = [48] := by decide +kernel
theorem numberBy {i : Int} (h : okI i) (S : Sto) : F_number_by [.str (num i)] S = some (.ok (.int i) S) := by
  have l1 := num_pos h
  have l2 := num_len h
  have hl : (num i).length ≤ big := by rw [big_eq]; omega
  have e := signs_all (z := "0123456789") hl (fun c hc => by
    have := num_digits h.1 c hc
    exact digits_in c this.1 this.2) S
  have c1 : (1 : Int) ≤ ((num i).length : Int) := by omega
  have c2 : ((num i).length : Int) ≤ 10 := by omega
  have it : int1 (.str (num i)) S = some (.int i, S) := by
    show (if (num i).length ≤ 640 then (PySem.intText? (num i)).map (fun n => (D.int n, S)) else none) = _
    rw [if_pos (by omega), num_int h]
    rfl
  by_cases h0 : i = 0
  · have z : num i = "0" := by
      subst h0
      refine TL.ext_tl ?_
      rw [num_tl (by decide), zero_tl]
      exact TL.numL_lt (n := 0) (by decide)
    simp [F_number_by, body, d_number_by, g1, len_s hl, c1, c2, dLc, iStrD, -List.map_map]
    rw [e]
    simp [all_true, z, -List.map_map]
    rw [z] at it
    simp [it]
  · obtain ⟨c, r, hc, h48⟩ := numL_head i.toNat (by have := h.1; omega)
    have htl : TL.tl (num i) = c :: r := by rw [num_tl h.1, hc]
    have x0 := ix_str0 htl hl S
    have nz : (⟨#[c]⟩ : Str) ≠ "0" := fun q => by
      have q2 := congrArg TL.tl q
      rw [zero_tl] at q2
      have q3 : [c] = [48] := q2
      exact h48 (List.cons.inj q3).1
    by_cases z : num i = "0"
    · simp [F_number_by, body, d_number_by, g1, len_s hl, c1, c2, dLc, iStrD, -List.map_map]
      rw [e]
      simp [all_true, z, -List.map_map]
      rw [z] at it
      simp [it]
    · simp [F_number_by, body, d_number_by, g1, len_s hl, c1, c2, dLc, iStrD, -List.map_map]
      rw [e]
      simp [all_true, z, x0, nz, it, -List.map_map]
def fN (ws : List Int) : List D := ws.map .int
theorem split_ok {a b : Str} (h : (b.length == 0) = false) (h2 : a.length + 2 ≤ big) (S : Sto) : splitV (.str a) [.str b] S = some (.lst ((Txt.split a b).map .str), S) := if_pos ⟨h, h2⟩
theorem worthsBy {ws : List Int} (h : okWs ws) (S : Sto) : F_worths_by [.str (worthsT ws)] S = some (.ok (worthsD ws) S) := by
  have wl := worths_len h
  have sp := split_ok (a := worthsT ws) (b := ",") (by decide +kernel) (by rw [big_eq]; omega) S
  rw [split_worths h] at sp
  have key : ∀ (l : List Int) (acc : List D), (∀ i ∈ l, okI i) → acc.length + l.length ≤ 1000 → lcD [1] (gNm 1) tYesD (dCall F_number_by 1 [] (aCons (dVar 1) (aNil))) ((l.map num).map .str) [some (.str (worthsT ws)), none] S acc = some (.ok (acc ++ l.map .int) S) := by
    intro l
    induction l with
    | nil => intro acc _ _; rw [List.map_nil, List.map_nil, List.map_nil, List.append_nil, lc_end]
    | cons i l ih =>
      intro acc h hl
      rw [List.length_cons] at hl
      have t : dCall F_number_by 1 [] (aCons (dVar 1) (aNil)) ((wipeD [some (.str (worthsT ws)), none] [1]).set 1 (some (.str (num i)))) S = some (.ok (.int i) S) := by
        simp [wipeD, numberBy (h i List.mem_cons_self)]
      rw [List.map_cons, List.map_cons, lc_nm, t, bndL_ok, if_pos (by rw [big_eq]; omega), ih _ (fun v hv => h v (List.mem_cons_of_mem _ hv)) (by rw [List.length_append, List.length_singleton]; omega), List.append_assoc]
      rfl
  have e := key ws [] h.2.2.2 (by have := h.2.1; show 0 + ws.length ≤ 1000; omega)
  rw [List.nil_append] at e
  generalize worthsT ws = t at sp e ⊢
  simp [F_worths_by, body, d_worths_by, ty_str, sp, dLc, iSeq, still, -List.map_map]
  rw [e]
  simp [g1, tuple1, lsOf, lstOf, worthsD]
theorem cut_from {ds : List D} {n : Nat} (h : n ≤ ds.length) : cutD ds (some (n : Int)) none = ds.drop n := by
  unfold cutD
  have e : HT.sIx ds.length 0 (some (n : Int)) = n := by
    rw [HT.sIx_nat]
    exact Nat.min_eq_left h
  rw [e, HT.sIx_none, List.take_of_length_le (by rw [List.length_drop]; omega)]
theorem cut_to {ds : List D} {n : Nat} : cutD ds none (some (n : Int)) = ds.take n := by
  unfold cutD
  rw [HT.sIx_none, HT.sIx_nat, List.drop_zero, Nat.sub_zero]
  by_cases h : n ≤ ds.length
  · rw [Nat.min_eq_left h]
  · rw [Nat.min_eq_right (by omega), List.take_length, List.take_of_length_le (by omega)]
theorem star1 (d : D) (ds : List D) : cutStar 2 1 (d :: ds) = [d, .lst ds] := by
  unfold cutStar
  simp
theorem star0 (d : D) (ds : List D) : cutStar 2 0 (ds ++ [d]) = [.lst ds, d] := by
  unfold cutStar
  simp
theorem strOk_of {s : Str} (h : ∀ c ∈ TL.tl s, c ≤ 122) : PyData.strOk s = true := by
  show s.cps.all (· < 0x110000) = true
  rw [← Array.all_toList]
  exact List.all_eq_true.mpr fun c hc => decide_eq_true (by have := h c hc; omega)
theorem num_strOk {i : Int} (h : okI i) : PyData.strOk (num i) = true := strOk_of fun c hc => by
  have := num_digits h.1 c hc
  omega
theorem pys_strs : ∀ a : List Str, pys (a.map .str) = some (a.map PyData.str)
  | [] => rfl
  | x :: a => by
    show (match py (.str x), pys (a.map .str) with | some x, some xs => some (x :: xs) | _, _ => none) = _
    rw [pys_strs a]
    rfl
theorem eqv_strs : ∀ a b : List Str, PyData.eqvAll (a.map PyData.str) (b.map PyData.str) = decide (a = b)
  | [], [] => rfl
  | [], _ :: _ => by rw [decide_eq_false (by simp)]; rfl
  | _ :: _, [] => by rw [decide_eq_false (by simp)]; rfl
  | x :: a, y :: b => by
    have ih := eqv_strs a b
    show (PyData.eqv (.str x) (.str y) && PyData.eqvAll (a.map PyData.str) (b.map PyData.str)) = _
    rw [ih]
    show ((x == y) && decide (a = b)) = _
    by_cases h1 : x = y
    · by_cases h2 : a = b
      · rw [h1, h2]; simp
      · rw [decide_eq_false h2, decide_eq_false (fun e => h2 (List.cons.inj e).2), Bool.and_false]
    · rw [decide_eq_false (fun e => h1 (List.cons.inj e).1)]
      have : (x == y) = false := by simpa using h1
      rw [this, Bool.false_and]
theorem shaped_strs {a : List Str} (h : ∀ s ∈ a, PyData.strOk s = true) : SeqAt.shaped (.list (a.map PyData.str)) = true := by
  obtain ⟨xs, h1, h2, h3⟩ := shDs_py (k := 0) (ds := a.map D.str) (shDs_map h)
  rw [pys_strs] at h1
  cases h1
  unfold SeqAt.shaped
  rw [Bool.and_eq_true]
  refine ⟨h2, decide_eq_true ?_⟩
  show PyData.depthAll (a.map PyData.str) + 1 ≤ 64
  omega
theorem eq_strs {a b : List Str} (ha : ∀ s ∈ a, PyData.strOk s = true) (hb : ∀ s ∈ b, PyData.strOk s = true) (S : Sto) : eqV' (.lst (a.map .str)) (.lst (b.map .str)) S = some (.bl (decide (a = b)), S) := by
  have e : eqvV S (.lst (a.map .str)) (.lst (b.map .str)) = (if SeqAt.shaped (.list (a.map PyData.str)) = true ∧ SeqAt.shaped (.list (b.map PyData.str)) = true then some (PyData.eqv (.list (a.map PyData.str)) (.list (b.map PyData.str))) else none) := by
    have p1 : pyS S (.lst (a.map .str)) = some (.list (a.map PyData.str)) := by
      show (pys (a.map .str)).map PyData.list = _
      rw [pys_strs]
      rfl
    have p2 : pyS S (.lst (b.map .str)) = some (.list (b.map PyData.str)) := by
      show (pys (b.map .str)).map PyData.list = _
      rw [pys_strs]
      rfl
    unfold eqvV
    rw [show eqs (.lst (a.map .str)) (.lst (b.map .str)) = none from rfl, p1, p2]
  show (eqvV S (.lst (a.map .str)) (.lst (b.map .str))).map _ = _
  rw [e, if_pos ⟨shaped_strs ha, shaped_strs hb⟩]
  show some (D.bl (PyData.eqvAll (a.map PyData.str) (b.map PyData.str)), S) = _
  rw [eqv_strs]
theorem must_strOk : ∀ s ∈ [("must" : Str)], PyData.strOk s = true := by decide +kernel
theorem if_strOk : PyData.strOk "if" = true := by decide +kernel
theorem wishBy {w : Wsh} {seen : List Str} (h : okW w) (h2 : okNeeds seen w.needs) (S : Sto) : F_wish_by [.str (wishT w)] S = some (.ok w.d S) := by
  have wl := wish_len h h2
  have sp := split_ok (a := wishT w) (b := " ") (by decide +kernel) (by rw [big_eq]; omega) S
  rw [split_wish h h2] at sp
  have wb := worthsBy h.2 S
  have iw := isWish h h2 S
  have wsh : PyData.strOk (worthsT w.ws) = true := strOk_of fun c hc => by
    have := worths_mem h.2 c hc
    omega
  obtain ⟨k, ws, must, needs⟩ := w
  simp only at wb wsh
  generalize wishT ⟨k, ws, must, needs⟩ = t at sp ⊢
  simp only [wordsT] at sp
  generalize worthsT ws = wt at sp wb wsh
  have x0 : ∀ (r : List D) S, ixV (.lst (.str wt :: r)) (.int 0) S = some (.str wt, S) := fun r S => by
    rw [ix_lst (by decide) (by simp)]
    rfl
  have q1 : ∀ (y : D) (r : List D) S, slV (.lst (y :: r)) (some 1) none S = some (.lst r, S) := fun y r S => by
    show some (D.lst (cutD (y :: r) (some ((1 : Nat) : Int)) none), S) = _
    rw [cut_from (by simp)]
    rfl
  have q0 : ∀ (y : D) (r : List D) S, slV (.lst (y :: r)) none (some 1) S = some (.lst [y], S) := fun y r S => by
    show some (D.lst (cutD (y :: r) none (some ((1 : Nat) : Int))), S) = _
    rw [cut_to]
    rfl
  have q2 : ∀ S, slV (.lst []) none (some 1) S = some (.lst [], S) := fun S => rfl
  have e1 : ∀ S, eqV' (.lst []) (.lst [.str "must"]) S = some (.bl false, S) := fun S => eq_strs (a := []) (b := ["must"]) (fun s hs => nomatch hs) must_strOk S
  have e2 : ∀ S, eqV' (.lst [.str "must"]) (.lst [.str "must"]) S = some (.bl true, S) := fun S => by
    have z := eq_strs (a := ["must"]) (b := ["must"]) must_strOk must_strOk S
    rw [decide_eq_true rfl] at z
    exact z
  have e3 : ∀ S, eqV' (.lst [.str "if"]) (.lst [.str "must"]) S = some (.bl false, S) := fun S => by
    have z := eq_strs (a := ["if"]) (b := ["must"]) (fun s hs => by rw [List.mem_singleton.mp hs]; exact if_strOk) must_strOk S
    rw [decide_eq_false (by decide +kernel)] at z
    exact z
  have n1 : ∀ (r : List Str) S, shDs 60 (r.map .str) = true → neV' (.lst (.str wt :: r.map .str)) (.lst []) S = some (.bl true, S) := fun r S hr => by
    rw [ne_nil (ds := .str wt :: r.map .str) rfl (by show (PyData.strOk wt && shDs 60 (r.map .str)) = true; rw [wsh, hr]; rfl)]
    rfl
  have n0 : ∀ S, neV' (.lst []) (.lst []) S = some (.bl false, S) := fun S => ne_nil (x := .lst []) (ds := []) rfl rfl
  cases needs with
  | none =>
    cases must with
    | false =>
      have sp' : splitV (.str t) [.str " "] S = some (.lst [.str k, .str wt], S) := sp
      have n1' : ∀ S, neV' (.lst [.str wt]) (.lst []) S = some (.bl true, S) := fun S => n1 [] S rfl
      have iw' : F_is_wish [.tup [.str k, worthsD ws, .bl false, .non]] S = some (.ok (.bl true) S) := iw
      simp [F_wish_by, body, d_wish_by, ty_str, sp', gStar, lsOf, lstOf, star1, gsCons, gsNil, big_eq, n1', x0, wb, q1, q2, e1, n0, iw', Wsh.d, needsD]
    | true =>
      have sp' : splitV (.str t) [.str " "] S = some (.lst [.str k, .str wt, .str "must"], S) := sp
      have n1' : ∀ S, neV' (.lst [.str wt, .str "must"]) (.lst []) S = some (.bl true, S) := fun S => n1 ["must"] S (shDs_map must_strOk)
      have iw' : F_is_wish [.tup [.str k, worthsD ws, .bl true, .non]] S = some (.ok (.bl true) S) := iw
      simp [F_wish_by, body, d_wish_by, ty_str, sp', gStar, lsOf, lstOf, star1, gsCons, gsNil, big_eq, n1', x0, wb, q0, q1, q2, e2, n0, iw', Wsh.d, needsD]
  | some p =>
    obtain ⟨a, b⟩ := p
    have nb := numberBy h2.2.2 S
    have ok3 : ∀ s ∈ [("if" : Str), a, num b], PyData.strOk s = true := fun s hs => by
      rcases List.mem_cons.mp hs with e | hs
      · rw [e]; exact if_strOk
      · rcases List.mem_cons.mp hs with e | hs
        · rw [e]; exact name_ok _ h2.2.1
        · rw [List.mem_singleton.mp hs]; exact num_strOk h2.2.2
    have ne3 : ∀ S, neV' (.lst [.str "if", .str a, .str (num b)]) (.lst []) S = some (.bl true, S) := fun S => ne_nil (ds := [("if" : Str), a, num b].map .str) rfl (shDs_map ok3)
    have i0 : ∀ S, ixV (.lst [.str "if", .str a, .str (num b)]) (.int 0) S = some (.str "if", S) := fun S => rfl
    have i1 : ∀ S, ixV (.lst [.str "if", .str a, .str (num b)]) (.int 1) S = some (.str a, S) := fun S => rfl
    have i2 : ∀ S, ixV (.lst [.str "if", .str a, .str (num b)]) (.int 2) S = some (.str (num b), S) := fun S => rfl
    simp only [tailT] at sp
    generalize num b = nbt at *
    cases must with
    | false =>
      have sp' : splitV (.str t) [.str " "] S = some (.lst [.str k, .str wt, .str "if", .str a, .str nbt], S) := sp
      have n1' : ∀ S, neV' (.lst [.str wt, .str "if", .str a, .str nbt]) (.lst []) S = some (.bl true, S) := fun S => n1 [("if" : Str), a, nbt] S (shDs_map ok3)
      have iw' : F_is_wish [.tup [.str k, worthsD ws, .bl false, .tup [.str a, .int b]]] S = some (.ok (.bl true) S) := iw
      simp [F_wish_by, body, d_wish_by, ty_str, sp', gStar, lsOf, lstOf, star1, gsCons, gsNil, big_eq, n1', x0, wb, q0, q1, q2, e3, ne3, i0, i1, i2, nb, g1, iw', Wsh.d, needsD]
    | true =>
      have sp' : splitV (.str t) [.str " "] S = some (.lst [.str k, .str wt, .str "must", .str "if", .str a, .str nbt], S) := sp
      have n1' : ∀ S, neV' (.lst [.str wt, .str "must", .str "if", .str a, .str nbt]) (.lst []) S = some (.bl true, S) := fun S => n1 [("must" : Str), "if", a, nbt] S (shDs_map fun s hs => by
        rcases List.mem_cons.mp hs with e | hs
        · rw [e]; exact must_strOk _ (List.mem_singleton.mpr rfl)
        · exact ok3 s hs)
      have iw' : F_is_wish [.tup [.str k, worthsD ws, .bl true, .tup [.str a, .int b]]] S = some (.ok (.bl true) S) := iw
      simp [F_wish_by, body, d_wish_by, ty_str, sp', gStar, lsOf, lstOf, star1, gsCons, gsNil, big_eq, n1', x0, wb, q0, q1, q2, e2, ne3, i0, i1, i2, nb, g1, iw', Wsh.d, needsD]
theorem boundBy {b : Str × List Int} (h : okName b.1) (h2 : okWs b.2) (S : Sto) : F_bound_by [.str (boundT b)] S = some (.ok (boundD b) S) := by
  have wl := bound_len h h2
  have sp := split_ok (a := boundT b) (b := " ") (by decide +kernel) (by rw [big_eq]; omega) S
  rw [split_bound h h2] at sp
  have wb := worthsBy h2 S
  have ib : F_is_bound [.tup [.str b.1, worthsD b.2]] S = some (.ok (.bl true) S) := isBound h h2 S
  generalize boundT b = t at sp ⊢
  generalize worthsT b.2 = wt at sp wb
  have sp' : splitV (.str t) [.str " "] S = some (.lst [.str b.1, .str wt], S) := sp
  have x0 : ∀ S, ixV (.lst [.str wt]) (.int 0) S = some (.str wt, S) := fun S => rfl
  simp [F_bound_by, body, d_bound_by, ty_str, sp', gStar, lsOf, lstOf, star1, gsCons, gsNil, big_eq, g1, x0, wb, ib, boundD]
end Cw

set_option maxRecDepth 100000
set_option maxHeartbeats 2000000
set_option linter.all false
/-! k76: a book is read. -/
namespace Cw
open PySem PySem.Spec PyProof.Rows L2
section
variable {δ : Env} {S : Sto} {A : DE} {L T : DA} {i n m l : Nat} {F : Fn} {g : D → D → Sto → Option (D × Sto)} {gD : List D → List D → List D}
@[simp] theorem z_callK : dCallK F n m l gD L T δ S = bnd (L δ S) fun xs S1 => bnd (T δ S1) fun zs S2 => if xs.length = n ∧ zs.length = m ∧ (gD xs zs).length = l then F (gD xs zs) S2 else none := rfl
@[simp] theorem z_aug : dAug i g A δ S = match δ[i]? with
  | some (some x) => bndS (A δ S) δ fun y S1 => match g x y S1 with
    | some (z, S2) => some (.nx (δ.set i (some z)) S2)
    | none => none
  | _ => none := rfl
@[simp] theorem z_neg : negV A δ S = bnd (A δ S) fun x S1 => match x with
  | .int i => some (.ok (.int (-i)) S1)
  | _ => none := rfl
end
theorem needOk (i : Int) (S : Sto) : F_need [.bl true, .int i] S = some (.ok .non S) := by
  simp [F_need, body, d_need]
theorem needText (s : Str) (S : Sto) : F_need_text [.str s] S = some (.ok .non S) := by
  simp [F_need_text, body, d_need_text, g2, isi_str]
theorem linesOf {W : List Wsh} {B : List (Str × List Int)} (h : okBook W B) (S : Sto) : F_lines_of [.str (bookT W B)] S = some (.ok (.tup [.lst ((linesT W B).map .str), .str ""]) S) := by
  have bl := book_len h
  have sp := split_ok (a := bookT W B) (b := "\n") (by decide +kernel) (by rw [big_eq]; omega) S
  rw [split_book h, List.map_append] at sp
  have sp' : splitV (.str (bookT W B)) [.str "\n"] S = some (.lst ((linesT W B).map D.str ++ [D.str ""]), S) := sp
  have hl : 2 ≤ ((linesT W B).map D.str ++ [D.str ""]).length + 1 := by simp
  generalize bookT W B = t at sp' ⊢
  generalize (linesT W B).map D.str = L at sp' hl ⊢
  simp [F_lines_of, body, d_lines_of, ty_str, sp', gStar, lsOf, lstOf, star0, gsCons, gsNil, big_eq]
theorem okL_pre {W2 : List Wsh} : ∀ {W1 : List Wsh} {seen : List Str}, okL seen (W1 ++ W2) → okL seen W1
  | [], _, _ => trivial
  | _ :: _, _, h => ⟨h.1, h.2.1, h.2.2.1, okL_pre h.2.2.2⟩
noncomputable abbrev wuTurn : DS := sSeq (sIf (asT (dOp eqV' (dVar 4) (dVar 1))) (sBrk) (sNext)) (sSeq (sAsg (dCall F_wish_by 1 [] (aCons (dVar 4) (aNil))) (gNm 5)) (sSeq (sExpr (dCallK F_need 1 1 2 (· ++ ·) (aCons (dOp isNotV2 (dVar 5) (dC .non)) (aNil)) (aCons (dVar 3) (aNil)))) (sSeq (dAug 2 iaddV (dTup (aCons (dVar 5) (aNil)))) (sExpr (dCallK F_need 1 1 2 (· ++ ·) (aCons (dCall F_are_wishes 1 [] (aCons (dVar 2) (aNil))) (aNil)) (aCons (dVar 3) (aNil)))))))
theorem wishT_ne {w : Wsh} : ¬ wishT w = "bounds" := fun e => by
  have h : (32 : Nat) ∈ TL.tl (wishT w) := by
    unfold wishT wordsT
    rw [TL.join_eq, TL.tl_join, tl_sp]
    show 32 ∈ TL.tl w.k ++ ([32] ++ _)
    simp
  rw [e] at h
  have := name_low "bounds" (by decide +kernel) 32 h
  omega
theorem iadd_tt {a b : List D} {S : Sto} (h : a.length + b.length ≤ big) : iaddV (.tup a) (.tup b) S = some (.tup (a ++ b), S) := if_pos h
theorem wu_loop {S : Sto} {x : Option D} {R : List D} : ∀ (W2 : List Wsh) {W1 : List Wsh} {i : Int} {y3 y4 y5 : Option D}, okL [] (W1 ++ W2) → (W1 ++ W2).length ≤ 6 →
    ∃ q3 q4 q5, forD (gSeq 2 (gsCons (gNm 3) (gsCons (gNm 4) (gsNil)))) wuTurn (numd i ((W2.map fun w => D.str (wishT w)) ++ .str "bounds" :: R)) [x, some (.str "bounds"), some (.tup (W1.map Wsh.d)), y3, y4, y5] S =
      some (.nx [x, some (.str "bounds"), some (.tup ((W1 ++ W2).map Wsh.d)), q3, q4, q5] S)
  | [], W1, i, y3, y4, y5, h, hl => by
    refine ⟨some (.int i), some (.str "bounds"), y5, ?_⟩
    have g : gSeq 2 (gsCons (gNm 3) (gsCons (gNm 4) (gsNil))) (.tup [.int i, .str "bounds"]) [x, some (.str "bounds"), some (.tup (W1.map Wsh.d)), y3, y4, y5] S = some [x, some (.str "bounds"), some (.tup (W1.map Wsh.d)), some (.int i), some (.str "bounds"), y5] := rfl
    rw [List.append_nil]
    show forD _ wuTurn (.tup [.int i, .str "bounds"] :: numd (i + 1) R) _ S = _
    rw [for_at g]
    generalize D.tup (W1.map Wsh.d) = wd
    simp [wuTurn, contD]
  | w :: W2, W1, i, y3, y4, y5, h, hl => by
    have e1 : W1 ++ w :: W2 = (W1 ++ [w]) ++ W2 := by simp
    rw [e1] at h hl
    have hW := okL_pre h
    have mem : w ∈ W1 ++ [w] := List.mem_append_right _ (List.mem_singleton.mpr rfl)
    obtain ⟨h1, s, h2⟩ := okL_mem hW mem
    have hl2 : (W1 ++ [w]).length ≤ 6 := by rw [List.length_append] at hl; omega
    obtain ⟨q3, q4, q5, e⟩ := wu_loop (S := S) (x := x) (R := R) W2 (W1 := W1 ++ [w]) (i := i + 1) (y3 := some (.int i)) (y4 := some (.str (wishT w))) (y5 := some w.d) h hl
    refine ⟨q3, q4, q5, ?_⟩
    have g : gSeq 2 (gsCons (gNm 3) (gsCons (gNm 4) (gsNil))) (.tup [.int i, .str (wishT w)]) [x, some (.str "bounds"), some (.tup (W1.map Wsh.d)), y3, y4, y5] S = some [x, some (.str "bounds"), some (.tup (W1.map Wsh.d)), some (.int i), some (.str (wishT w)), y5] := rfl
    have aw := areWishes hW hl2 S
    have ia : ∀ S, iaddV (.tup (W1.map Wsh.d)) (.tup [w.d]) S = some (.tup ((W1 ++ [w]).map Wsh.d), S) := fun S => by
      rw [iadd_tt (by rw [List.length_append, List.length_singleton] at hl2; rw [List.length_map, big_eq]; show W1.length + 1 ≤ 1000000; omega), List.map_append]
      rfl
    have nn : ∀ S, isNotV2 w.d .non S = some (.bl true, S) := fun S => rfl
    have wb := wishBy h1 h2 S
    have ne := wishT_ne (w := w)
    rw [e1]
    show forD _ wuTurn (.tup [.int i, .str (wishT w)] :: numd (i + 1) ((W2.map fun w => D.str (wishT w)) ++ .str "bounds" :: R)) _ S = _
    rw [for_at g]
    generalize wishT w = t at wb ne e ⊢
    generalize w.d = wd at wb ia nn e ⊢
    generalize D.tup ((W1 ++ [w]).map Wsh.d) = w1 at ia aw e
    generalize D.tup (W1.map Wsh.d) = w0 at ia
    have turn : wuTurn [x, some (.str "bounds"), some w0, some (.int i), some (.str t), y5] S = some (.nx [x, some (.str "bounds"), some w1, some (.int i), some (.str t), some wd] S) := by
      simp [wuTurn, ne, wb, nn, needOk, big_eq, ia, aw]
    rw [turn]
    exact e
theorem wishesUntil {W : List Wsh} {B : List (Str × List Int)} (h : okBook W B) (S : Sto) : F_wishes_until [.lst ((linesT W B).map .str), .str "bounds"] S = some (.ok (.tup (W.map Wsh.d)) S) := by
  obtain ⟨q3, q4, q5, e⟩ := wu_loop (S := S) (x := some (.lst ((linesT W B).map .str))) (R := (B.map boundT).map .str) W (W1 := []) (i := 1) (y3 := none) (y4 := none) (y5 := none) h.1 h.2.1
  have sl : slV (.lst ((linesT W B).map .str)) (some 1) none S = some (.lst ((W.map fun w => D.str (wishT w)) ++ .str "bounds" :: (B.map boundT).map .str), S) := by
    show some (D.lst (cutD (.str "wishes" :: (W.map wishT ++ (("bounds" : Str) :: B.map boundT)).map .str) (some ((1 : Nat) : Int)) none), S) = _
    rw [cut_from (by simp)]
    simp
  generalize D.lst ((linesT W B).map .str) = ld at e sl ⊢
  rw [List.nil_append] at e
  have hs : isSmall 1 := by decide
  simp [F_wishes_until, body, d_wishes_until, big_eq, sFor, iNumD, sl, num2, hs, stillL, -List.map_map]
  simp only [List.map_nil] at e
  rw [e]
  simp
noncomputable abbrev rbTurn : DS := sSeq (dAug 5 iaddV (dTup (aCons (dCall F_bound_by 1 [] (aCons (dVar 7) (aNil))) (aNil)))) (sExpr (dCallK F_need 1 1 2 (· ++ ·) (aCons (dAnd (dOp isNotV2 (dOp ixV (dVar 5) (negV (dC (.int 1)))) (dC .non)) (dCall F_are_bounds 1 [] (aCons (dVar 5) (aNil)))) (aNil)) (aCons (dVar 6) (aNil))))
theorem ix_last {ds : List D} {d : D} {S : Sto} : ixV (.tup (ds ++ [d])) (.int (-1)) S = some (d, S) := by
  have e : L2.atI (ds ++ [d]) (-1) = some d := by
    unfold L2.atI ixN
    rw [if_neg (by decide), if_pos (by simp; omega)]
    show (ds ++ [d])[(-1 + ((ds ++ [d]).length : Int)).toNat]? = _
    rw [show (-1 + ((ds ++ [d]).length : Int)).toNat = ds.length by simp; omega, List.getElem?_append_right (Nat.le_refl _), Nat.sub_self]
    rfl
  show (L2.atI (ds ++ [d]) (-1)).map (fun d => (d, S)) = _
  rw [e]
  rfl
theorem okB_pre {B1 B2 : List (Str × List Int)} (h : okB (B1 ++ B2)) : okB B1 := by
  refine ⟨?_, ?_, fun b hb => h.2.2 b (List.mem_append_left _ hb)⟩
  · have z := h.1
    rw [List.map_append] at z
    exact (List.nodup_append.mp z).1
  · have z := h.2.1
    rw [List.length_append] at z
    omega
theorem rb_loop {S : Sto} {x0 x1 x2 x3 x4 : Option D} : ∀ (B2 : List (Str × List Int)) {B1 : List (Str × List Int)} {i : Int} {y6 y7 : Option D}, okB (B1 ++ B2) →
    ∃ q6 q7, forD (gSeq 2 (gsCons (gNm 6) (gsCons (gNm 7) (gsNil)))) rbTurn (numd i (B2.map fun b => D.str (boundT b))) [x0, x1, x2, x3, x4, some (.tup (B1.map boundD)), y6, y7] S =
      some (.nx [x0, x1, x2, x3, x4, some (.tup ((B1 ++ B2).map boundD)), q6, q7] S)
  | [], B1, i, y6, y7, h => ⟨y6, y7, by rw [List.append_nil]; rfl⟩
  | b :: B2, B1, i, y6, y7, h => by
    have e1 : B1 ++ b :: B2 = (B1 ++ [b]) ++ B2 := by simp
    rw [e1] at h
    have hB := okB_pre h
    obtain ⟨h1, h2⟩ := hB.2.2 b (List.mem_append_right _ (List.mem_singleton.mpr rfl))
    have hl2 := hB.2.1
    obtain ⟨q6, q7, e⟩ := rb_loop (S := S) (x0 := x0) (x1 := x1) (x2 := x2) (x3 := x3) (x4 := x4) B2 (B1 := B1 ++ [b]) (i := i + 1) (y6 := some (.int i)) (y7 := some (.str (boundT b))) h
    refine ⟨q6, q7, ?_⟩
    have g : gSeq 2 (gsCons (gNm 6) (gsCons (gNm 7) (gsNil))) (.tup [.int i, .str (boundT b)]) [x0, x1, x2, x3, x4, some (.tup (B1.map boundD)), y6, y7] S = some [x0, x1, x2, x3, x4, some (.tup (B1.map boundD)), some (.int i), some (.str (boundT b))] := rfl
    have ab := areBounds hB S
    have ia : ∀ S, iaddV (.tup (B1.map boundD)) (.tup [boundD b]) S = some (.tup ((B1 ++ [b]).map boundD), S) := fun S => by
      rw [iadd_tt (by rw [List.length_append, List.length_singleton] at hl2; rw [List.length_map, big_eq]; show B1.length + 1 ≤ 1000000; omega), List.map_append]
      rfl
    have il : ∀ S, ixV (.tup ((B1 ++ [b]).map boundD)) (.int (-1)) S = some (boundD b, S) := fun S => by
      rw [List.map_append]
      exact ix_last
    have nn : ∀ S, isNotV2 (boundD b) .non S = some (.bl true, S) := fun S => rfl
    have bb := boundBy h1 h2 S
    rw [e1]
    show forD _ rbTurn (.tup [.int i, .str (boundT b)] :: numd (i + 1) (B2.map fun b => D.str (boundT b))) _ S = _
    rw [for_at g]
    generalize boundT b = t at bb e ⊢
    generalize boundD b = bd at bb ia il nn
    generalize D.tup ((B1 ++ [b]).map boundD) = b1 at ia ab il e
    generalize D.tup (B1.map boundD) = b0 at ia
    have turn : rbTurn [x0, x1, x2, x3, x4, some b0, some (.int i), some (.str t)] S = some (.nx [x0, x1, x2, x3, x4, some b1, some (.int i), some (.str t)] S) := by
      simp [rbTurn, bb, big_eq, ia, il, nn, ab, needOk]
    rw [turn]
    exact e
theorem read_core {S : Sto} {t : Str} {ld wd bd : D} {n n2 wl : Int} {q6 q7 : Option D} {ds : List D} (e : forD (gSeq 2 (gsCons (gNm 6) (gsCons (gNm 7) (gsNil)))) rbTurn (numd n2 ds) [some (.str t), some ld, some (.str ""), some wd, some (.int n2), some (.tup []), none, none] S = some (.nx [some (.str t), some ld, some (.str ""), some wd, some (.int n2), some bd, q6, q7] S))
    (nt : F_need_text [.str t] S = some (.ok .non S)) (lo : F_lines_of [.str t] S = some (.ok (.tup [ld, .str ""]) S)) (wu : F_wishes_until [ld, .str "bounds"] S = some (.ok wd S))
    (s1 : slV ld none (some 1) S = some (.lst [.str "wishes"], S)) (e1 : eqV' (.lst [.str "wishes"]) (.lst [.str "wishes"]) S = some (.bl true, S)) (ln : len1 ld S = some (.int n, S)) (lw : len1 wd S = some (.int wl, S)) (hn : wl + 2 = n2)
    (s2 : slV ld (some n2) none S = some (.lst ds, S)) (hs : isSmall n2) (le : n2 ≤ n) : F_read_book [.str t] S = some (.ok (.tup [wd, bd]) S) := by
  have nd : ∀ i, F_need [.bl true, .int i] S = some (.ok .non S) := fun i => needOk i S
  simp [F_read_book, body, d_read_book, nt, lo, gSeq, items, gsCons, gsNil, s1, big_eq, e1, nd, wu, lw, g1, hn, ln, le, sFor, iNumD, s2, num2, hs, stillL]
  rw [e]
  simp [g1, ln, nd, big_eq]
theorem readBook {W : List Wsh} {B : List (Str × List Int)} (h : okBook W B) (S : Sto) : F_read_book [.str (bookT W B)] S = some (.ok (bookD W B) S) := by
  obtain ⟨q6, q7, e⟩ := rb_loop (S := S) (x0 := some (.str (bookT W B))) (x1 := some (.lst ((linesT W B).map .str))) (x2 := some (.str "")) (x3 := some (.tup (W.map Wsh.d))) (x4 := some (.int (W.length + 2))) B (B1 := []) (i := (W.length : Int) + 2) (y6 := none) (y7 := none) h.2.2
  have nt := needText (bookT W B) S
  have lo := linesOf h S
  have wu := wishesUntil h S
  have hW := h.2.1
  have hB := h.2.2.2.1
  have len : (linesT W B).length = W.length + 2 + B.length := by
    show (("wishes" : Str) :: (W.map wishT ++ (("bounds" : Str) :: B.map boundT))).length = _
    simp
    omega
  have s1 : slV (.lst ((linesT W B).map .str)) none (some 1) S = some (.lst [.str "wishes"], S) := by
    show some (D.lst (cutD (.str "wishes" :: (W.map wishT ++ (("bounds" : Str) :: B.map boundT)).map .str) none (some ((1 : Nat) : Int))), S) = _
    rw [cut_to]
    rfl
  have e1 : eqV' (.lst [.str "wishes"]) (.lst [.str "wishes"]) S = some (.bl true, S) := by
    have ok : ∀ s ∈ [("wishes" : Str)], PyData.strOk s = true := by decide +kernel
    have z := eq_strs (a := ["wishes"]) (b := ["wishes"]) ok ok S
    rw [decide_eq_true rfl] at z
    exact z
  have ln : len1 (.lst ((linesT W B).map .str)) S = some (.int (W.length + 2 + B.length : Nat), S) := by
    show some (D.int (((linesT W B).map D.str).length : Nat), S) = _
    rw [List.length_map, len]
  have lw : len1 (.tup (W.map Wsh.d)) S = some (.int W.length, S) := by
    show some (D.int ((W.map Wsh.d).length : Nat), S) = _
    rw [List.length_map]
  have s2 : slV (.lst ((linesT W B).map .str)) (some ((W.length : Int) + 2)) none S = some (.lst (B.map fun b => D.str (boundT b)), S) := by
    show some (D.lst (cutD ((linesT W B).map .str) (some (((W.length + 2 : Nat) : Int))) none), S) = _
    rw [cut_from (by rw [List.length_map, len]; omega)]
    have : (linesT W B).map D.str = ((("wishes" : Str) :: (W.map wishT ++ [("bounds" : Str)])).map D.str) ++ B.map fun b => D.str (boundT b) := by
      show (("wishes" : Str) :: (W.map wishT ++ (("bounds" : Str) :: B.map boundT))).map D.str = _
      simp
    rw [this, List.drop_append_of_le_length (by simp), List.drop_of_length_le (by simp)]
    rfl
  have hs : isSmall ((W.length : Int) + 2) := by unfold isSmall; omega
  have le : (W.length : Int) + 2 ≤ ((W.length + 2 + B.length : Nat) : Int) := by omega
  rw [List.nil_append] at e
  exact read_core (n := ((W.length + 2 + B.length : Nat) : Int)) (n2 := (W.length : Int) + 2) e nt lo wu s1 e1 ln lw rfl s2 hs le
end Cw

set_option maxRecDepth 100000
set_option maxHeartbeats 2000000
set_option linter.all false
/-! k76: the law. -/
namespace Cw
open PySem PySem.Spec PyProof.Rows L2
/-! ### what is shown of a book -/
structure Shw (k b : Nat) (x : PyData) : Prop where
  sh : x.showable = true
  dp : x.depth ≤ k
  nd : x.hasDict = false
  ln : x.shown.length ≤ b
def PyShw (k b : Nat) (d : D) : Prop := ∃ x, py d = some x ∧ Shw k b x
theorem PyShw.mono {k j b c : Nat} {d : D} (h : PyShw k b d) (h1 : k ≤ j) (h2 : b ≤ c) : PyShw j c d := by
  obtain ⟨x, e, s⟩ := h
  exact ⟨x, e, s.sh, Nat.le_trans s.dp h1, s.nd, Nat.le_trans s.ln h2⟩
theorem len_shown {k b : Nat} : ∀ {xs : List PyData}, (∀ x ∈ xs, Shw k b x) → ((PyData.shownAll xs).map (·.length)).sum ≤ xs.length * b ∧ (PyData.shownAll xs).length = xs.length ∧ PyData.showableAll xs = true ∧ PyData.depthAll xs ≤ k ∧ PyData.hasDictAll xs = false
  | [], _ => ⟨Nat.zero_le _, rfl, rfl, Nat.zero_le _, rfl⟩
  | x :: xs, h => by
    have hx := h x List.mem_cons_self
    obtain ⟨a1, a2, a3, a4, a5⟩ := len_shown (xs := xs) fun y hy => h y (List.mem_cons_of_mem _ hy)
    have e : PyData.shownAll (x :: xs) = x.shown :: PyData.shownAll xs := by simp only [PyData.shownAll]
    rw [e]
    refine ⟨?_, by rw [List.length_cons, List.length_cons, a2], ?_, ?_, ?_⟩
    · rw [List.map_cons, List.sum_cons, List.length_cons, Nat.succ_mul]
      have := hx.ln
      omega
    · simp only [PyData.showableAll, hx.sh, a3, Bool.and_self]
    · simp only [PyData.depthAll]
      exact Nat.max_le.mpr ⟨hx.dp, a4⟩
    · simp only [PyData.hasDictAll, hx.nd, a5, Bool.or_self]
theorem tupleText_len (ts : List Str) : (tupleText ts).length ≤ 3 + (ts.map (·.length)).sum + ts.length * 2 := by
  have z := StrLaws.join_length_le ", " ts
  have l2 : (", " : Str).length = 2 := by decide +kernel
  rw [l2] at z
  have e : (tupleText ts).length = ("(" : Str).length + (Str.join ", " ts).length + ((if ts.length == 1 then ",)" else ")" : String) : Str).length := by
    show ((("(" : Str) ++ Str.join ", " ts) ++ ((if ts.length == 1 then ",)" else ")" : String) : Str)).length = _
    rw [Str.length_append, Str.length_append]
  have h1 : ("(" : Str).length = 1 := by decide +kernel
  have h2 : ((if ts.length == 1 then ",)" else ")" : String) : Str).length ≤ 2 := by split <;> decide +kernel
  omega
theorem pys_shw {k b : Nat} : ∀ {ds : List D}, (∀ d ∈ ds, PyShw k b d) → ∃ xs, pys ds = some xs ∧ xs.length = ds.length ∧ ∀ x ∈ xs, Shw k b x
  | [], _ => ⟨[], rfl, rfl, fun _ h => nomatch h⟩
  | d :: ds, h => by
    obtain ⟨x, e1, s⟩ := h d List.mem_cons_self
    obtain ⟨xs, e2, l, hs⟩ := pys_shw (ds := ds) fun y hy => h y (List.mem_cons_of_mem _ hy)
    refine ⟨x :: xs, ?_, by rw [List.length_cons, List.length_cons, l], fun y hy => ?_⟩
    · show (match py d, pys ds with | some x, some xs => some (x :: xs) | _, _ => none) = _
      rw [e1, e2]
    · rcases List.mem_cons.mp hy with e | hy
      · rw [e]
        exact s
      · exact hs y hy
theorem shw_tup {k b : Nat} {ds : List D} (h : ∀ d ∈ ds, PyShw k b d) : PyShw (k + 1) (3 + ds.length * b + ds.length * 2) (.tup ds) := by
  obtain ⟨xs, e, l, hs⟩ := pys_shw h
  obtain ⟨a1, a2, a3, a4, a5⟩ := len_shown hs
  refine ⟨.tuple xs, by show (pys ds).map PyData.tuple = _; rw [e]; rfl, ?_, ?_, ?_, ?_⟩
  · simp only [PyData.showable]
    exact a3
  · simp only [PyData.depth]
    omega
  · simp only [PyData.hasDict]
    exact a5
  · simp only [PyData.shown]
    have z := tupleText_len (PyData.shownAll xs)
    rw [a2, l] at z
    rw [l] at a1
    omega
theorem small_log {i : Int} (h : okI i) : i.natAbs.log2 < 1920 := by
  have h1 : i.natAbs < 2 ^ 1920 := by
    have h1 := h.1
    have h2 := h.2
    have : i.natAbs ≤ 9999 := by omega
    exact Nat.lt_of_le_of_lt this (by decide +kernel)
  by_cases hz : i.natAbs = 0
  · rw [hz]
    decide
  · exact (Nat.log2_lt hz).mpr h1
theorem shw_int {i : Int} (h : okI i) : PyShw 0 12 (.int i) := by
  refine ⟨.int i, rfl, ?_, Nat.zero_le _, rfl, ?_⟩
  · simp only [PyData.showable]
    exact decide_eq_true (small_log h)
  · simp only [PyData.shown]
    have := num_len h
    show (num i).length ≤ 12
    omega
theorem name_shown : ∀ s ∈ NAMES, (reprText s).length ≤ 12 := by decide +kernel
theorem shw_str {s : Str} (h : okName s) : PyShw 0 12 (.str s) := ⟨.str s, rfl, rfl, Nat.zero_le _, rfl, by
  simp only [PyData.shown]
  exact name_shown s h⟩
theorem shw_bl (b : Bool) : PyShw 0 12 (.bl b) := ⟨.bool b, rfl, rfl, Nat.zero_le _, rfl, by cases b <;> decide +kernel⟩
theorem shw_worths {ws : List Int} (h : okWs ws) : PyShw 1 100 (worthsD ws) := by
  have z := shw_tup (k := 0) (b := 12) (ds := ws.map .int) fun d hd => by
    obtain ⟨i, hi, e⟩ := List.mem_map.mp hd
    subst e
    exact shw_int (h.2.2.2 i hi)
  have := h.2.1
  exact z.mono (Nat.le_refl _) (by rw [List.length_map]; omega)
theorem shw_needs {seen : List Str} {n : Option (Str × Int)} (h : okNeeds seen n) : PyShw 1 100 (needsD n) := by
  cases n with
  | none => exact ⟨.none, rfl, rfl, Nat.zero_le _, rfl, by decide +kernel⟩
  | some p =>
    refine (shw_tup (k := 0) (b := 12) (ds := [.str p.1, .int p.2]) fun d hd => ?_).mono (Nat.le_refl _) (by simp)
    rcases List.mem_cons.mp hd with e | hd
    · subst e
      exact shw_str h.2.1
    · rw [List.mem_singleton.mp hd]
      exact shw_int h.2.2
theorem shw_wsh {w : Wsh} {seen : List Str} (h : okW w) (h2 : okNeeds seen w.needs) : PyShw 2 500 w.d := by
  refine (shw_tup (k := 1) (b := 100) (ds := [.str w.k, worthsD w.ws, .bl w.must, needsD w.needs]) fun d hd => ?_).mono (Nat.le_refl _) (by simp)
  rcases List.mem_cons.mp hd with e | hd
  · subst e
    exact (shw_str h.1).mono (by decide) (by decide)
  · rcases List.mem_cons.mp hd with e | hd
    · subst e
      exact shw_worths h.2
    · rcases List.mem_cons.mp hd with e | hd
      · subst e
        exact (shw_bl _).mono (by decide) (by decide)
      · rw [List.mem_singleton.mp hd]
        exact shw_needs h2
theorem shw_bound {b : Str × List Int} (h : okName b.1) (h2 : okWs b.2) : PyShw 2 500 (boundD b) := by
  refine (shw_tup (k := 1) (b := 100) (ds := [.str b.1, worthsD b.2]) fun d hd => ?_).mono (Nat.le_refl _) (by simp)
  rcases List.mem_cons.mp hd with e | hd
  · subst e
    exact (shw_str h).mono (by decide) (by decide)
  · rw [List.mem_singleton.mp hd]
    exact shw_worths h2
theorem shw_book {W : List Wsh} {B : List (Str × List Int)} (h : okBook W B) : PyShw 4 20000 (bookD W B) := by
  have h1 := h.2.1
  have h2 := h.2.2.2.1
  have z1 : PyShw 3 5000 (.tup (W.map Wsh.d)) := (shw_tup (k := 2) (b := 500) (ds := W.map Wsh.d) fun d hd => by
    obtain ⟨w, hw, e⟩ := List.mem_map.mp hd
    subst e
    obtain ⟨a1, s, a2⟩ := okL_mem h.1 hw
    exact shw_wsh a1 a2).mono (Nat.le_refl _) (by rw [List.length_map]; omega)
  have z2 : PyShw 3 5000 (.tup (B.map boundD)) := (shw_tup (k := 2) (b := 500) (ds := B.map boundD) fun d hd => by
    obtain ⟨b, hb, e⟩ := List.mem_map.mp hd
    subst e
    have z := h.2.2.2.2 b hb
    exact shw_bound z.1 z.2).mono (Nat.le_refl _) (by rw [List.length_map]; omega)
  refine (shw_tup (k := 3) (b := 5000) (ds := [.tup (W.map Wsh.d), .tup (B.map boundD)]) fun d hd => ?_).mono (Nat.le_refl _) (by simp)
  rcases List.mem_cons.mp hd with e | hd
  · subst e
    exact z1
  · rw [List.mem_singleton.mp hd]
    exact z2
theorem reprBook {W : List Wsh} {B : List (Str × List Int)} (h : okBook W B) : ∃ r : Str, ∀ S, reprV (bookD W B) S = some (.str r, S) := by
  obtain ⟨x, e, s⟩ := shw_book h
  refine ⟨x.shown, fun S => ?_⟩
  show (match py (bookD W B) with
    | some d => if fitsR d then some (D.str d.shown, S) else none
    | none => none) = _
  rw [e]
  exact if_pos ⟨s.sh, Nat.le_trans s.dp (by decide), s.nd, Nat.le_trans s.ln (by decide)⟩
/-! ### the law -/
theorem penMake (ns : List Int) : ∃ cs, F__law_pen [.scr (ns.map .int)] [] = some (.ok (.ref 0) [pen cs 0 0]) := by
  refine ⟨ns.take 63, ?_⟩
  have sl : slV (.scr (ns.map .int)) none (some 63) [] = some (.lst ((ns.take 63).map .int), []) := by
    show some (D.lst (cutD (ns.map .int) none (some ((63 : Nat) : Int))), ([] : Sto)) = _
    rw [cut_to, List.map_take]
  have k1 : ¬ (Sum.inr ("cells" : Str) : Key) = Sum.inr ("at" : Str) := by decide +kernel
  have k2 : ¬ (Sum.inr ("cells" : Str) : Key) = Sum.inr ("left" : Str) := by decide +kernel
  have k3 : ¬ (Sum.inr ("at" : Str) : Key) = Sum.inr ("left" : Str) := by decide +kernel
  have ld : ∀ a b c : D, laid [(.inr "cells", a), (.inr "at", b), (.inr "left", c)] = [(.inr "cells", a), (.inr "at", b), (.inr "left", c)] := fun a b c => by
    simp [laid, putA, k1, k2, k3]
  generalize (ns.map D.int) = L at sl ⊢
  simp [F__law_pen, body, d__law_pen, dDic, dPs, sl, g1, list1, items, keyed, kOf, ld, pen]
noncomputable abbrev inTurn : DS := sSeq (sAsg (dCall F_show_book 1 [] (aCons (dVar 3) (aNil))) (gNm 7)) (sIf (tOrD (tNotD (asT (dCB (g2 isiV) (aCons (dVar 7) (aCons (dC (.ty "str")) (aNil)))))) (tOrD (asT (dOp neV' (dVar 7) (dVar 5))) (tOrD (asT (dOp neV' (dCB (g1 reprV) (aCons (dCall F_read_book 1 [] (aCons (dVar 5) (aNil))) (aNil))) (dVar 4))) (asT (dOp neV' (dCB (g1 reprV) (aCons (dVar 3) (aNil))) (dVar 4)))))) (sRet (dC (.bl false))) (sNext))
theorem in_turn {S : Sto} {bd : D} {t r : Str} {x0 x1 x2 x6 x7 x8 : Option D} (h1 : F_show_book [bd] S = some (.ok (.str t) S)) (h2 : F_read_book [.str t] S = some (.ok bd S)) (h3 : ∀ S, reprV bd S = some (.str r, S)) :
    inTurn [x0, x1, x2, some bd, some (.str r), some (.str t), x6, x7, x8] S = some (.nx [x0, x1, x2, some bd, some (.str r), some (.str t), x6, some (.str t), x8] S) := by
  simp [inTurn, h1, h2, h3, g1, g2, isi_str]
noncomputable abbrev outTurn : DS := sSeq (sAsg (dCall F__law_any_book 1 [] (aCons (dVar 1) (aNil))) (gNm 3)) (sSeq (sAsg (dCB (g1 reprV) (aCons (dVar 3) (aNil))) (gNm 4)) (sSeq (sAsg (dCall F__law_with_ends 1 [] (aCons (dCall F__law_book_lines 1 [] (aCons (dVar 3) (aNil))) (aNil))) (gNm 5)) (sSeq (sFor (iRg1 (aCons (dC (.int 2)) (aNil))) (gNm 6) inTurn) (sIf (asT (dOp isNotV2 (dCall F_is_book 1 [] (aCons (dVar 3) (aNil))) (dC (.bl true)))) (sRet (dC (.bl false))) (sNext)))))
theorem out_turn {m : Nat} {o : Ob} {x0 x2 x3 x4 x5 x6 x7 x8 : Option D} (hp : PenOk m o) (hm : m + 3000 ≤ 1048576) :
    ∃ (o' : Ob) (q3 q4 q5 q6 q7 : Option D), outTurn [x0, some (.ref 0), x2, x3, x4, x5, x6, x7, x8] [o] = some (.nx [x0, some (.ref 0), x2, q3, q4, q5, q6, q7, x8] [o']) ∧ PenOk (m + 3000) o' := by
  obtain ⟨W, B, o1, e1, p1, hb⟩ := any_book (T := []) hp hm
  obtain ⟨r, hr⟩ := reprBook hb
  have e2 := bookLines hb [o1]
  have e3 : F__law_with_ends [.lst ((linesT W B).map .str)] [o1] = some (.ok (.str (bookT W B)) [o1]) := withEnds (lines_len hb).1 (lines_len hb).2 [o1]
  have e4 := showBook hb [o1]
  have e5 := readBook hb [o1]
  have e6 := isBook hb [o1]
  have nb : ∀ S, isNotV2 (.bl true) (.bl true) S = some (.bl false, S) := fun S => rfl
  refine ⟨o1, some (bookD W B), some (.str r), some (.str (bookT W B)), some (.int 1), some (.str (bookT W B)), ?_, p1⟩
  generalize bookD W B = bd at *
  generalize bookT W B = t at *
  generalize D.lst ((linesT W B).map .str) = ll at *
  have i1 := in_turn (x0 := x0) (x1 := some (.ref 0)) (x2 := x2) (x6 := some (.int 0)) (x7 := x7) (x8 := x8) e4 e5 hr
  have i2 := in_turn (x0 := x0) (x1 := some (.ref 0)) (x2 := x2) (x6 := some (.int 1)) (x7 := some (.str t)) (x8 := x8) e4 e5 hr
  have lp : forD (gNm 6) inTurn (upto 0 2) [x0, some (.ref 0), x2, some bd, some (.str r), some (.str t), x6, x7, x8] [o1] = some (.nx [x0, some (.ref 0), x2, some bd, some (.str r), some (.str t), some (.int 1), some (.str t), x8] [o1]) := by
    show forD (gNm 6) inTurn [.int 0, .int 1] _ _ = _
    rw [for_nm, show ([x0, some (.ref 0), x2, some bd, some (.str r), some (.str t), x6, x7, x8] : Env).set 6 (some (.int 0)) = [x0, some (.ref 0), x2, some bd, some (.str r), some (.str t), some (.int 0), x7, x8] from rfl, i1, contD_nx]
    rw [for_nm, show ([x0, some (.ref 0), x2, some bd, some (.str r), some (.str t), some (.int 0), some (.str t), x8] : Env).set 6 (some (.int 1)) = [x0, some (.ref 0), x2, some bd, some (.str r), some (.str t), some (.int 1), some (.str t), x8] from rfl, i2, contD_nx]
    rfl
  have hs : isSmall 2 := by decide
  rw [show outTurn = sSeq (sAsg (dCall F__law_any_book 1 [] (aCons (dVar 1) (aNil))) (gNm 3)) (sSeq (sAsg (dCB (g1 reprV) (aCons (dVar 3) (aNil))) (gNm 4)) (sSeq (sAsg (dCall F__law_with_ends 1 [] (aCons (dCall F__law_book_lines 1 [] (aCons (dVar 3) (aNil))) (aNil))) (gNm 5)) (sSeq (sFor (iRg1 (aCons (dC (.int 2)) (aNil))) (gNm 6) inTurn) (sIf (asT (dOp isNotV2 (dCall F_is_book 1 [] (aCons (dVar 3) (aNil))) (dC (.bl true)))) (sRet (dC (.bl false))) (sNext))))) from rfl]
  generalize hI : inTurn = I at lp
  simp [e1, hr, e2, e3, g1, sFor, iRg1, rng1, hs, lp, e6, nb]
theorem out_loop {x0 x8 : Option D} : ∀ (ds : List D) {m : Nat} {o : Ob} {x2 x3 x4 x5 x6 x7 : Option D}, PenOk m o → m + 3000 * ds.length ≤ 1048576 →
    ∃ (o' : Ob) (q2 q3 q4 q5 q6 q7 : Option D), forD (gNm 2) outTurn ds [x0, some (.ref 0), x2, x3, x4, x5, x6, x7, x8] [o] = some (.nx [x0, some (.ref 0), q2, q3, q4, q5, q6, q7, x8] [o'])
  | [], m, o, x2, x3, x4, x5, x6, x7, _, _ => ⟨o, x2, x3, x4, x5, x6, x7, rfl⟩
  | d :: ds, m, o, x2, x3, x4, x5, x6, x7, hp, hm => by
    rw [List.length_cons] at hm
    obtain ⟨o1, q3, q4, q5, q6, q7, e1, p1⟩ := out_turn (x0 := x0) (x2 := some d) (x3 := x3) (x4 := x4) (x5 := x5) (x6 := x6) (x7 := x7) (x8 := x8) hp (by omega)
    obtain ⟨o2, r2, r3, r4, r5, r6, r7, e2⟩ := out_loop (x0 := x0) (x8 := x8) ds (x2 := some d) (x3 := q3) (x4 := q4) (x5 := q5) (x6 := q6) (x7 := q7) p1 (by omega)
    refine ⟨o2, r2, r3, r4, r5, r6, r7, ?_⟩
    rw [for_nm, show ([x0, some (.ref 0), x2, x3, x4, x5, x6, x7, x8] : Env).set 2 (some d) = [x0, some (.ref 0), some d, x3, x4, x5, x6, x7, x8] from rfl, e1, contD_nx]
    exact e2
def W0 : List Wsh := [⟨"k", [1, 0], true, none⟩, ⟨"l", [3], false, some ("k", 1)⟩]
theorem book0 : okBook W0 [] := by
  have n1 : okName "k" := by show ("k" : Str) ∈ NAMES; decide +kernel
  have n2 : okName "l" := by show ("l" : Str) ∈ NAMES; decide +kernel
  have w1 : okWs [1, 0] := ⟨by decide, by decide, by decide, by unfold okI; decide⟩
  have w2 : okWs [3] := ⟨by decide, by decide, by decide, by unfold okI; decide⟩
  have i1 : okI 1 := by unfold okI; decide
  refine ⟨⟨by simp, trivial, ⟨n1, w1⟩, ?_, ⟨?_, n1, i1⟩, ⟨n2, w2⟩, trivial⟩, by decide, by simp [okB]⟩
  · decide +kernel
  · decide +kernel
theorem text0 : bookT W0 [] = "wishes\nk 1,0 must\nl 3 if k 1\nbounds\n" := by decide +kernel
theorem eq0 (S : Sto) : eqV' (bookD W0 []) (.tup [.tup [.tup [.str "k", .tup [.int 1, .int 0], .bl true, .non], .tup [.str "l", .tup [.int 3], .bl false, .tup [.str "k", .int 1]]], .tup []]) S = some (.bl true, S) := by
  have e : bookD W0 [] = .tup [.tup [.tup [.str "k", .tup [.int 1, .int 0], .bl true, .non], .tup [.str "l", .tup [.int 3], .bl false, .tup [.str "k", .int 1]]], .tup []] := rfl
  rw [e]
  let pd : PyData := .tuple [.tuple [.tuple [.str "k", .tuple [.int 1, .int 0], .bool true, .none], .tuple [.str "l", .tuple [.int 3], .bool false, .tuple [.str "k", .int 1]]], .tuple []]
  have sh : SeqAt.shaped pd = true := by decide +kernel
  have ev : PyData.eqv pd pd = true := by decide +kernel
  have z : eqvV S (.tup [.tup [.tup [.str "k", .tup [.int 1, .int 0], .bl true, .non], .tup [.str "l", .tup [.int 3], .bl false, .tup [.str "k", .int 1]]], .tup []]) (.tup [.tup [.tup [.str "k", .tup [.int 1, .int 0], .bl true, .non], .tup [.str "l", .tup [.int 3], .bl false, .tup [.str "k", .int 1]]], .tup []]) = (if SeqAt.shaped pd = true ∧ SeqAt.shaped pd = true then some (PyData.eqv pd pd) else none) := rfl
  show (eqvV S _ _).map _ = _
  rw [z, if_pos ⟨sh, sh⟩, ev]
  rfl
theorem law_true : ∀ ns : List Int, ns.length ≤ 63 → ∃ S', F_law [.scr (ns.map D.int)] [] = some (.ok (.bl true) S') := fun ns _ => by
  obtain ⟨cs, e1⟩ := penMake ns
  have hp : PenOk 0 (pen cs 0 0) := ⟨cs, 0, 0, rfl, by decide, by decide, by decide⟩
  obtain ⟨o2, q2, q3, q4, q5, q6, q7, e2⟩ := out_loop (x0 := some (.scr (ns.map D.int))) (x8 := none) (upto 0 8) (x2 := none) (x3 := none) (x4 := none) (x5 := none) (x6 := none) (x7 := none) hp (by rw [upto_len]; decide)
  have e3 := readBook book0 [o2]
  rw [text0] at e3
  have e4 := eq0 [o2]
  have hs : isSmall 8 := by decide
  refine ⟨[o2], ?_⟩
  generalize D.scr (ns.map D.int) = sc at e1 e2 ⊢
  have e2' : forD (gNm 2) outTurn (upto 0 8) [some sc, some (.ref 0), none, none, none, none, none, none, none] [pen cs 0 0] = some (.nx [some sc, some (.ref 0), q2, q3, q4, q5, q6, q7, none] [o2]) := e2
  generalize bookD W0 [] = b0 at e3 e4
  simp [F_law, body, d_law, e1, sFor, iRg1, rng1, hs]
  rw [e2']
  simp [e3, big_eq, e4]
end Cw

set_option linter.all false
set_option maxRecDepth 100000
set_option maxHeartbeats 0
namespace Hd
open PySem PySem.Spec PyProof.Rows L2 Cw
def d__law_pen : He.DefD := ⟨("_law_pen", none), "_law_pen", "_law_pen", defArgs (top 38), defBody (top 38), defScope (top 38), [], []⟩
def d__law_draw : He.DefD := ⟨("_law_draw", none), "_law_draw", "_law_draw", defArgs (top 39), defBody (top 39), defScope (top 39), [], []⟩
def d__law_kinds : He.DefD := ⟨("_law_kinds", none), "_law_kinds", "_law_kinds", defArgs (top 40), defBody (top 40), defScope (top 40), [], []⟩
def d__law_worths : He.DefD := ⟨("_law_worths", none), "_law_worths", "_law_worths", defArgs (top 41), defBody (top 41), defScope (top 41), [], []⟩
def d__law_wishes : He.DefD := ⟨("_law_wishes", none), "_law_wishes", "_law_wishes", defArgs (top 42), defBody (top 42), defScope (top 42), [], []⟩
def d__law_bounds : He.DefD := ⟨("_law_bounds", none), "_law_bounds", "_law_bounds", defArgs (top 43), defBody (top 43), defScope (top 43), [], []⟩
def d__law_books : He.DefD := ⟨("_law_books", none), "_law_books", "_law_books", defArgs (top 44), defBody (top 44), defScope (top 44), [], []⟩
def d__law_great : He.DefD := ⟨("_law_great", none), "_law_great", "_law_great", defArgs (top 45), defBody (top 45), defScope (top 45), [], []⟩
def d__law_any_book : He.DefD := ⟨("_law_any_book", none), "_law_any_book", "_law_any_book", defArgs (top 46), defBody (top 46), defScope (top 46), [], []⟩
def d__law_with_ends : He.DefD := ⟨("_law_with_ends", none), "_law_with_ends", "_law_with_ends", defArgs (top 49), defBody (top 49), defScope (top 49), [], []⟩
def d_need_text : He.DefD := ⟨("need_text", none), "need_text", "need_text", defArgs (top 29), defBody (top 29), defScope (top 29), [], []⟩
def d_lines_of : He.DefD := ⟨("lines_of", none), "lines_of", "lines_of", defArgs (top 34), defBody (top 34), defScope (top 34), [], []⟩
def d_need : He.DefD := ⟨("need", none), "need", "need", defArgs (top 28), defBody (top 28), defScope (top 28), [], [("line", .int 0)]⟩
def d_number_by : He.DefD := ⟨("number_by", none), "number_by", "number_by", defArgs (top 30), defBody (top 30), defScope (top 30), [], []⟩
def d_worths_by : He.DefD := ⟨("worths_by", none), "worths_by", "worths_by", defArgs (top 31), defBody (top 31), defScope (top 31), [], []⟩
def d_is_tuple : He.DefD := ⟨("is_tuple", none), "is_tuple", "is_tuple", defArgs (top 17), defBody (top 17), defScope (top 17), [], []⟩
def d_is_name : He.DefD := ⟨("is_name", none), "is_name", "is_name", defArgs (top 15), defBody (top 15), defScope (top 15), [], []⟩
def d_is_worth : He.DefD := ⟨("is_worth", none), "is_worth", "is_worth", defArgs (top 16), defBody (top 16), defScope (top 16), [], []⟩
def d_are_worths : He.DefD := ⟨("are_worths", none), "are_worths", "are_worths", defArgs (top 18), defBody (top 18), defScope (top 18), [], []⟩
def d_is_pair : He.DefD := ⟨("is_pair", none), "is_pair", "is_pair", defArgs (top 19), defBody (top 19), defScope (top 19), [], []⟩
def d_is_wish : He.DefD := ⟨("is_wish", none), "is_wish", "is_wish", defArgs (top 20), defBody (top 20), defScope (top 20), [], []⟩
def d_wish_by : He.DefD := ⟨("wish_by", none), "wish_by", "wish_by", defArgs (top 32), defBody (top 32), defScope (top 32), [], []⟩
def d_are_wishes : He.DefD := ⟨("are_wishes", none), "are_wishes", "are_wishes", defArgs (top 21), defBody (top 21), defScope (top 21), [], []⟩
def d_wishes_until : He.DefD := ⟨("wishes_until", none), "wishes_until", "wishes_until", defArgs (top 35), defBody (top 35), defScope (top 35), [], []⟩
def d_is_bound : He.DefD := ⟨("is_bound", none), "is_bound", "is_bound", defArgs (top 22), defBody (top 22), defScope (top 22), [], []⟩
def d_bound_by : He.DefD := ⟨("bound_by", none), "bound_by", "bound_by", defArgs (top 33), defBody (top 33), defScope (top 33), [], []⟩
def d_are_bounds : He.DefD := ⟨("are_bounds", none), "are_bounds", "are_bounds", defArgs (top 23), defBody (top 23), defScope (top 23), [], []⟩
def d_read_book : He.DefD := ⟨("read_book", none), "read_book", "read_book", defArgs (top 36), defBody (top 36), defScope (top 36), [], []⟩
def d__law_wish_text : He.DefD := ⟨("_law_wish_text", none), "_law_wish_text", "_law_wish_text", defArgs (top 47), defBody (top 47), defScope (top 47), [], []⟩
def d__law_book_lines : He.DefD := ⟨("_law_book_lines", none), "_law_book_lines", "_law_book_lines", defArgs (top 48), defBody (top 48), defScope (top 48), [], []⟩
def d_ended : He.DefD := ⟨("ended", none), "ended", "ended", defArgs (top 4), defBody (top 4), defScope (top 4), [], []⟩
def d_show_worths : He.DefD := ⟨("show_worths", none), "show_worths", "show_worths", defArgs (top 1), defBody (top 1), defScope (top 1), [], []⟩
def d_show_wish : He.DefD := ⟨("show_wish", none), "show_wish", "show_wish", defArgs (top 2), defBody (top 2), defScope (top 2), [], []⟩
def d_show_book : He.DefD := ⟨("show_book", none), "show_book", "show_book", defArgs (top 3), defBody (top 3), defScope (top 3), [], []⟩
def d_is_book : He.DefD := ⟨("is_book", none), "is_book", "is_book", defArgs (top 24), defBody (top 24), defScope (top 24), [], []⟩
def d_law : He.DefD := ⟨("law", none), "law", "law", defArgs (top 50), defBody (top 50), defScope (top 50), [], []⟩
def fn : List He.DefD := [d__law_pen, d__law_draw, d__law_kinds, d__law_worths, d__law_wishes, d__law_bounds, d__law_books, d__law_great, d__law_any_book, d__law_with_ends, d_need_text, d_lines_of, d_need, d_number_by, d_worths_by, d_is_tuple, d_is_name, d_is_worth, d_are_worths, d_is_pair, d_is_wish, d_wish_by, d_are_wishes, d_wishes_until, d_is_bound, d_bound_by, d_are_bounds, d_read_book, d__law_wish_text, d__law_book_lines, d_ended, d_show_worths, d_show_wish, d_show_book, d_is_book, d_law]
def fa0 : List He.Fa := [.glo "_law_pen", .glo "_law_draw", .glo "_law_kinds", .glo "_law_worths", .glo "_law_wishes", .glo "_law_bounds", .glo "_law_books", .glo "_law_great", .glo "_law_any_book", .glo "_law_with_ends", .glo "need_text", .glo "lines_of", .glo "need", .glo "number_by", .glo "worths_by", .glo "is_tuple", .glo "is_name", .glo "is_worth", .glo "are_worths", .glo "is_pair", .glo "is_wish", .glo "wish_by", .glo "are_wishes", .glo "wishes_until", .glo "is_bound", .glo "bound_by", .glo "are_bounds", .glo "read_book", .glo "_law_wish_text", .glo "_law_book_lines"]
def fa1 : List He.Fa := [.glo "ended", .glo "show_worths", .glo "show_wish", .glo "show_book", .glo "is_book", .glo "law", .free "list", .free "len", .free "abs", .free "int", .free "range", .free "min", .free "tuple", .free "enumerate", .free "str", .free "isinstance", .int "MOST_FIGURES" 10, .str "FIGURES" "0123456789", .free "all", .int "LONGEST" 8, .str "LETTERS" "abcdefghijklmnopqrstuvwxyz", .free "bool", .int "GREATEST" 9999, .int "MOST_WORTHS" 6, .free "set", .int "MOST_WISHES" 6, .int "MOST_BOUNDS" 8, .free "repr"]
def fa : List He.Fa := fa0 ++ fa1
def loose0 : List Str := ["show_worths", "show_wish", "show_book", "ended", "WishError", "NoText", "LETTERS", "LONGEST", "GREATEST", "MOST_WORTHS", "MOST_WISHES", "MOST_BOUNDS", "is_name", "is_worth", "is_tuple", "are_worths", "is_pair", "is_wish", "are_wishes", "is_bound", "are_bounds", "is_book", "FIGURES", "MOST_FIGURES", "need", "need_text", "number_by", "worths_by", "wish_by", "bound_by"]
def loose1 : List Str := ["lines_of", "wishes_until", "read_book", "_law_pen", "_law_draw", "_law_kinds", "_law_worths", "_law_wishes", "_law_bounds", "_law_books", "_law_great", "_law_any_book", "_law_wish_text", "_law_book_lines", "_law_with_ends"]
def loose : List Str := loose0 ++ loose1
abbrev R : PySem.W.OpenRow := PySem.W.OpenLaw.row PySem.Challenge.rw_crossedwishes_k76_books_written_and_read
abbrev hk : PySem.W.Hook := He.hookD 4 fa fn
def ob (s : PySem.W.SharedT) : He.AlD := He.obsDG 4 fa fn (HandSHeadRun.getT s)
theorem ob_eq (s : PySem.W.SharedT) : ob s = hk.obs s.abs := He.obsDG_eq (HandSHeadRun.getT_eq s)
theorem run (w : World) : HandSHeadRun.RunEq R (PySem.W.view R.prog [50]) hk ob 4000 loose w := by
  intro os
  kernel_rfl
theorem facts {P : Program} {w : World} {K : PySem.W.Frag} {h : Heap} {mg : Str → Option Value} {f : Addr} (X : K.In h) (G : h.Ns mainGlobals mg) (hfa : mg ("law" : Str) = some (.ref f)) (c : He.SaysD fa fn K) :
    ∃ fd : FuncData, (∀ (s : Shared) (v : Value), BindsTo s fd ⟨[v], []⟩ [("_law_script", v)]) ∧ ∀ base : Heap, K.In base → base.Ns mainGlobals mg → GnOk P w K mg base 7 f fd ["_law_script"] F_law := by
  have q_list := He.free_ok X G (c.fact 36 (f := .free "list") rfl)
  have q_len := He.free_ok X G (c.fact 37 (f := .free "len") rfl)
  have q_abs := He.free_ok X G (c.fact 38 (f := .free "abs") rfl)
  have q_int := He.free_ok X G (c.fact 39 (f := .free "int") rfl)
  have q_range := He.free_ok X G (c.fact 40 (f := .free "range") rfl)
  have q_min := He.free_ok X G (c.fact 41 (f := .free "min") rfl)
  have q_tuple := He.free_ok X G (c.fact 42 (f := .free "tuple") rfl)
  have q_enumerate := He.free_ok X G (c.fact 43 (f := .free "enumerate") rfl)
  have q_str := He.free_ok X G (c.fact 44 (f := .free "str") rfl)
  have q_isinstance := He.free_ok X G (c.fact 45 (f := .free "isinstance") rfl)
  have k_MOST_FIGURES := He.int_ok X G (c.fact 46 (f := .int "MOST_FIGURES" 10) rfl)
  have k_FIGURES := He.str_ok X G (c.fact 47 (f := .str "FIGURES" "0123456789") rfl)
  have q_all := He.free_ok X G (c.fact 48 (f := .free "all") rfl)
  have k_LONGEST := He.int_ok X G (c.fact 49 (f := .int "LONGEST" 8) rfl)
  have k_LETTERS := He.str_ok X G (c.fact 50 (f := .str "LETTERS" "abcdefghijklmnopqrstuvwxyz") rfl)
  have q_bool := He.free_ok X G (c.fact 51 (f := .free "bool") rfl)
  have k_GREATEST := He.int_ok X G (c.fact 52 (f := .int "GREATEST" 9999) rfl)
  have k_MOST_WORTHS := He.int_ok X G (c.fact 53 (f := .int "MOST_WORTHS" 6) rfl)
  have q_set := He.free_ok X G (c.fact 54 (f := .free "set") rfl)
  have k_MOST_WISHES := He.int_ok X G (c.fact 55 (f := .int "MOST_WISHES" 6) rfl)
  have k_MOST_BOUNDS := He.int_ok X G (c.fact 56 (f := .int "MOST_BOUNDS" 8) rfl)
  have q_repr := He.free_ok X G (c.fact 57 (f := .free "repr") rfl)
  obtain ⟨fd__law_pen, D__law_pen⟩ := c.def_ 0 (d := d__law_pen) rfl
  have m__law_pen := He.glo_ok X G (c.fact 0 (f := .glo "_law_pen") rfl)
  obtain ⟨fd__law_draw, D__law_draw⟩ := c.def_ 1 (d := d__law_draw) rfl
  have m__law_draw := He.glo_ok X G (c.fact 1 (f := .glo "_law_draw") rfl)
  obtain ⟨fd__law_kinds, D__law_kinds⟩ := c.def_ 2 (d := d__law_kinds) rfl
  have m__law_kinds := He.glo_ok X G (c.fact 2 (f := .glo "_law_kinds") rfl)
  obtain ⟨fd__law_worths, D__law_worths⟩ := c.def_ 3 (d := d__law_worths) rfl
  have m__law_worths := He.glo_ok X G (c.fact 3 (f := .glo "_law_worths") rfl)
  obtain ⟨fd__law_wishes, D__law_wishes⟩ := c.def_ 4 (d := d__law_wishes) rfl
  have m__law_wishes := He.glo_ok X G (c.fact 4 (f := .glo "_law_wishes") rfl)
  obtain ⟨fd__law_bounds, D__law_bounds⟩ := c.def_ 5 (d := d__law_bounds) rfl
  have m__law_bounds := He.glo_ok X G (c.fact 5 (f := .glo "_law_bounds") rfl)
  obtain ⟨fd__law_books, D__law_books⟩ := c.def_ 6 (d := d__law_books) rfl
  have m__law_books := He.glo_ok X G (c.fact 6 (f := .glo "_law_books") rfl)
  obtain ⟨fd__law_great, D__law_great⟩ := c.def_ 7 (d := d__law_great) rfl
  have m__law_great := He.glo_ok X G (c.fact 7 (f := .glo "_law_great") rfl)
  obtain ⟨fd__law_any_book, D__law_any_book⟩ := c.def_ 8 (d := d__law_any_book) rfl
  have m__law_any_book := He.glo_ok X G (c.fact 8 (f := .glo "_law_any_book") rfl)
  obtain ⟨fd__law_with_ends, D__law_with_ends⟩ := c.def_ 9 (d := d__law_with_ends) rfl
  have m__law_with_ends := He.glo_ok X G (c.fact 9 (f := .glo "_law_with_ends") rfl)
  obtain ⟨fd_need_text, D_need_text⟩ := c.def_ 10 (d := d_need_text) rfl
  have m_need_text := He.glo_ok X G (c.fact 10 (f := .glo "need_text") rfl)
  obtain ⟨fd_lines_of, D_lines_of⟩ := c.def_ 11 (d := d_lines_of) rfl
  have m_lines_of := He.glo_ok X G (c.fact 11 (f := .glo "lines_of") rfl)
  obtain ⟨fd_need, D_need⟩ := c.def_ 12 (d := d_need) rfl
  have m_need := He.glo_ok X G (c.fact 12 (f := .glo "need") rfl)
  obtain ⟨fd_number_by, D_number_by⟩ := c.def_ 13 (d := d_number_by) rfl
  have m_number_by := He.glo_ok X G (c.fact 13 (f := .glo "number_by") rfl)
  obtain ⟨fd_worths_by, D_worths_by⟩ := c.def_ 14 (d := d_worths_by) rfl
  have m_worths_by := He.glo_ok X G (c.fact 14 (f := .glo "worths_by") rfl)
  obtain ⟨fd_is_tuple, D_is_tuple⟩ := c.def_ 15 (d := d_is_tuple) rfl
  have m_is_tuple := He.glo_ok X G (c.fact 15 (f := .glo "is_tuple") rfl)
  obtain ⟨fd_is_name, D_is_name⟩ := c.def_ 16 (d := d_is_name) rfl
  have m_is_name := He.glo_ok X G (c.fact 16 (f := .glo "is_name") rfl)
  obtain ⟨fd_is_worth, D_is_worth⟩ := c.def_ 17 (d := d_is_worth) rfl
  have m_is_worth := He.glo_ok X G (c.fact 17 (f := .glo "is_worth") rfl)
  obtain ⟨fd_are_worths, D_are_worths⟩ := c.def_ 18 (d := d_are_worths) rfl
  have m_are_worths := He.glo_ok X G (c.fact 18 (f := .glo "are_worths") rfl)
  obtain ⟨fd_is_pair, D_is_pair⟩ := c.def_ 19 (d := d_is_pair) rfl
  have m_is_pair := He.glo_ok X G (c.fact 19 (f := .glo "is_pair") rfl)
  obtain ⟨fd_is_wish, D_is_wish⟩ := c.def_ 20 (d := d_is_wish) rfl
  have m_is_wish := He.glo_ok X G (c.fact 20 (f := .glo "is_wish") rfl)
  obtain ⟨fd_wish_by, D_wish_by⟩ := c.def_ 21 (d := d_wish_by) rfl
  have m_wish_by := He.glo_ok X G (c.fact 21 (f := .glo "wish_by") rfl)
  obtain ⟨fd_are_wishes, D_are_wishes⟩ := c.def_ 22 (d := d_are_wishes) rfl
  have m_are_wishes := He.glo_ok X G (c.fact 22 (f := .glo "are_wishes") rfl)
  obtain ⟨fd_wishes_until, D_wishes_until⟩ := c.def_ 23 (d := d_wishes_until) rfl
  have m_wishes_until := He.glo_ok X G (c.fact 23 (f := .glo "wishes_until") rfl)
  obtain ⟨fd_is_bound, D_is_bound⟩ := c.def_ 24 (d := d_is_bound) rfl
  have m_is_bound := He.glo_ok X G (c.fact 24 (f := .glo "is_bound") rfl)
  obtain ⟨fd_bound_by, D_bound_by⟩ := c.def_ 25 (d := d_bound_by) rfl
  have m_bound_by := He.glo_ok X G (c.fact 25 (f := .glo "bound_by") rfl)
  obtain ⟨fd_are_bounds, D_are_bounds⟩ := c.def_ 26 (d := d_are_bounds) rfl
  have m_are_bounds := He.glo_ok X G (c.fact 26 (f := .glo "are_bounds") rfl)
  obtain ⟨fd_read_book, D_read_book⟩ := c.def_ 27 (d := d_read_book) rfl
  have m_read_book := He.glo_ok X G (c.fact 27 (f := .glo "read_book") rfl)
  obtain ⟨fd__law_wish_text, D__law_wish_text⟩ := c.def_ 28 (d := d__law_wish_text) rfl
  have m__law_wish_text := He.glo_ok X G (c.fact 28 (f := .glo "_law_wish_text") rfl)
  obtain ⟨fd__law_book_lines, D__law_book_lines⟩ := c.def_ 29 (d := d__law_book_lines) rfl
  have m__law_book_lines := He.glo_ok X G (c.fact 29 (f := .glo "_law_book_lines") rfl)
  obtain ⟨fd_ended, D_ended⟩ := c.def_ 30 (d := d_ended) rfl
  have m_ended := He.glo_ok X G (c.fact 30 (f := .glo "ended") rfl)
  obtain ⟨fd_show_worths, D_show_worths⟩ := c.def_ 31 (d := d_show_worths) rfl
  have m_show_worths := He.glo_ok X G (c.fact 31 (f := .glo "show_worths") rfl)
  obtain ⟨fd_show_wish, D_show_wish⟩ := c.def_ 32 (d := d_show_wish) rfl
  have m_show_wish := He.glo_ok X G (c.fact 32 (f := .glo "show_wish") rfl)
  obtain ⟨fd_show_book, D_show_book⟩ := c.def_ 33 (d := d_show_book) rfl
  have m_show_book := He.glo_ok X G (c.fact 33 (f := .glo "show_book") rfl)
  obtain ⟨fd_is_book, D_is_book⟩ := c.def_ 34 (d := d_is_book) rfl
  have m_is_book := He.glo_ok X G (c.fact 34 (f := .glo "is_book") rfl)
  obtain ⟨fd_law, D_law⟩ := c.def_ 35 (d := d_law) rfl
  have m_law := He.glo_ok X G (c.fact 35 (f := .glo "law") rfl)
  have e := hfa.symm.trans m_law
  cases e
  refine ⟨fd_law, fun s v => FunD.bindsA (ps := ["_law_script"]) D_law (fun _ _ _ _ _ _ us hl => match us, hl with | [_], _ => rfl) s [v] rfl, fun base _ _ => ?_⟩
  have G__law_pen := g__law_pen (P := P) (w := w) (mg := mg) (base := base) D__law_pen q_list
  have c__law_pen := cal_of D__law_pen m__law_pen G__law_pen (fun _ _ _ _ _ _ us hl => match us, hl with | [_], _ => rfl)
  have G__law_draw := g__law_draw (P := P) (w := w) (mg := mg) (base := base) D__law_draw q_len q_abs q_int
  have c__law_draw := cal_of D__law_draw m__law_draw G__law_draw (fun _ _ _ _ _ _ us hl => match us, hl with | [_, _], _ => rfl)
  have G__law_kinds := g__law_kinds (P := P) (w := w) (mg := mg) (base := base) D__law_kinds q_range q_len c__law_draw
  have c__law_kinds := cal_of D__law_kinds m__law_kinds G__law_kinds (fun _ _ _ _ _ _ us hl => match us, hl with | [_, _], _ => rfl)
  have G__law_worths := g__law_worths (P := P) (w := w) (mg := mg) (base := base) D__law_worths c__law_draw q_range q_len q_min q_tuple
  have c__law_worths := cal_of D__law_worths m__law_worths G__law_worths (fun _ _ _ _ _ _ us hl => match us, hl with | [_, _], _ => rfl)
  have G__law_wishes := g__law_wishes (P := P) (w := w) (mg := mg) (base := base) D__law_wishes q_list q_len c__law_draw c__law_worths q_tuple
  have c__law_wishes := cal_of D__law_wishes m__law_wishes G__law_wishes (fun _ _ _ _ _ _ us hl => match us, hl with | [_, _, _], _ => rfl)
  have G__law_bounds := g__law_bounds (P := P) (w := w) (mg := mg) (base := base) D__law_bounds c__law_draw c__law_worths q_tuple
  have c__law_bounds := cal_of D__law_bounds m__law_bounds G__law_bounds (fun _ _ _ _ _ _ us hl => match us, hl with | [_, _, _], _ => rfl)
  have G__law_books := g__law_books (P := P) (w := w) (mg := mg) (base := base) D__law_books c__law_draw c__law_kinds c__law_bounds c__law_wishes
  have c__law_books := cal_of D__law_books m__law_books G__law_books (fun _ _ _ _ _ _ us hl => match us, hl with | [_, _, _], _ => rfl)
  have G__law_great := g__law_great (P := P) (w := w) (mg := mg) (base := base) D__law_great c__law_kinds q_enumerate c__law_draw q_tuple
  have c__law_great := cal_of D__law_great m__law_great G__law_great (fun _ _ _ _ _ _ us hl => match us, hl with | [_], _ => rfl)
  have G__law_any_book := g__law_any_book (P := P) (w := w) (mg := mg) (base := base) D__law_any_book c__law_books c__law_draw c__law_kinds q_tuple c__law_great
  have c__law_any_book := cal_of D__law_any_book m__law_any_book G__law_any_book (fun _ _ _ _ _ _ us hl => match us, hl with | [_], _ => rfl)
  have G__law_with_ends := g__law_with_ends (P := P) (w := w) (mg := mg) (base := base) D__law_with_ends 
  have c__law_with_ends := cal_of D__law_with_ends m__law_with_ends G__law_with_ends (fun _ _ _ _ _ _ us hl => match us, hl with | [_], _ => rfl)
  have G_need_text := g_need_text (P := P) (w := w) (mg := mg) (base := base) D_need_text q_str q_isinstance
  have c_need_text := cal_of D_need_text m_need_text G_need_text (fun _ _ _ _ _ _ us hl => match us, hl with | [_], _ => rfl)
  have G_lines_of := g_lines_of (P := P) (w := w) (mg := mg) (base := base) D_lines_of 
  have c_lines_of := cal_of D_lines_of m_lines_of G_lines_of (fun _ _ _ _ _ _ us hl => match us, hl with | [_], _ => rfl)
  have G_need := g_need (P := P) (w := w) (mg := mg) (base := base) D_need 
  have c_needd := cal_kw (ps := ["is_right", "line"]) D_need m_need G_need 1 (List.cons_ne_nil _ _) rfl (fun _ _ _ _ _ _ us ks hl hk => match us, ks, hl, hk with | [_], [_], _, _ => ⟨_, _, _, _, _, _, rfl, rfl, rfl⟩) (fun _ => Dats.cons (d := .int 0) rfl Dats.nil)
  have ck_need := calK_of (ps := ["is_right", "line"]) (n := 1) (ks := ["line"]) D_need m_need G_need (fun _ _ _ _ _ _ _ us ws hl hk => match us, ws, hl, hk with | [_], [_], _, _ => rfl)
  have G_number_by := g_number_by (P := P) (w := w) (mg := mg) (base := base) D_number_by q_len k_MOST_FIGURES k_FIGURES q_all q_int
  have c_number_by := cal_of D_number_by m_number_by G_number_by (fun _ _ _ _ _ _ us hl => match us, hl with | [_], _ => rfl)
  have G_worths_by := g_worths_by (P := P) (w := w) (mg := mg) (base := base) D_worths_by c_number_by q_tuple
  have c_worths_by := cal_of D_worths_by m_worths_by G_worths_by (fun _ _ _ _ _ _ us hl => match us, hl with | [_], _ => rfl)
  have G_is_tuple := g_is_tuple (P := P) (w := w) (mg := mg) (base := base) D_is_tuple q_tuple q_isinstance q_len
  have c_is_tuple := cal_of D_is_tuple m_is_tuple G_is_tuple (fun _ _ _ _ _ _ us hl => match us, hl with | [_, _, _], _ => rfl)
  have G_is_name := g_is_name (P := P) (w := w) (mg := mg) (base := base) D_is_name q_str q_isinstance q_len k_LONGEST k_LETTERS q_all
  have c_is_name := cal_of D_is_name m_is_name G_is_name (fun _ _ _ _ _ _ us hl => match us, hl with | [_], _ => rfl)
  have G_is_worth := g_is_worth (P := P) (w := w) (mg := mg) (base := base) D_is_worth q_int q_isinstance q_bool k_GREATEST
  have c_is_worth := cal_of D_is_worth m_is_worth G_is_worth (fun _ _ _ _ _ _ us hl => match us, hl with | [_], _ => rfl)
  have G_are_worths := g_are_worths (P := P) (w := w) (mg := mg) (base := base) D_are_worths k_MOST_WORTHS c_is_tuple c_is_worth q_all q_len q_set
  have c_are_worths := cal_of D_are_worths m_are_worths G_are_worths (fun _ _ _ _ _ _ us hl => match us, hl with | [_], _ => rfl)
  have G_is_pair := g_is_pair (P := P) (w := w) (mg := mg) (base := base) D_is_pair c_is_tuple c_is_name c_is_worth
  have c_is_pair := cal_of D_is_pair m_is_pair G_is_pair (fun _ _ _ _ _ _ us hl => match us, hl with | [_], _ => rfl)
  have G_is_wish := g_is_wish (P := P) (w := w) (mg := mg) (base := base) D_is_wish c_is_tuple c_is_name c_are_worths q_bool q_isinstance c_is_pair
  have c_is_wish := cal_of D_is_wish m_is_wish G_is_wish (fun _ _ _ _ _ _ us hl => match us, hl with | [_], _ => rfl)
  have G_wish_by := g_wish_by (P := P) (w := w) (mg := mg) (base := base) D_wish_by c_worths_by q_len c_number_by c_is_wish
  have c_wish_by := cal_of D_wish_by m_wish_by G_wish_by (fun _ _ _ _ _ _ us hl => match us, hl with | [_], _ => rfl)
  have G_are_wishes := g_are_wishes (P := P) (w := w) (mg := mg) (base := base) D_are_wishes k_MOST_WISHES c_is_tuple c_is_wish q_all
  have c_are_wishes := cal_of D_are_wishes m_are_wishes G_are_wishes (fun _ _ _ _ _ _ us hl => match us, hl with | [_], _ => rfl)
  have G_wishes_until := g_wishes_until (P := P) (w := w) (mg := mg) (base := base) D_wishes_until q_enumerate c_wish_by ck_need c_are_wishes
  have c_wishes_until := cal_of D_wishes_until m_wishes_until G_wishes_until (fun _ _ _ _ _ _ us hl => match us, hl with | [_, _], _ => rfl)
  have G_is_bound := g_is_bound (P := P) (w := w) (mg := mg) (base := base) D_is_bound c_is_tuple c_is_name c_are_worths
  have c_is_bound := cal_of D_is_bound m_is_bound G_is_bound (fun _ _ _ _ _ _ us hl => match us, hl with | [_], _ => rfl)
  have G_bound_by := g_bound_by (P := P) (w := w) (mg := mg) (base := base) D_bound_by q_len c_worths_by c_is_bound
  have c_bound_by := cal_of D_bound_by m_bound_by G_bound_by (fun _ _ _ _ _ _ us hl => match us, hl with | [_], _ => rfl)
  have G_are_bounds := g_are_bounds (P := P) (w := w) (mg := mg) (base := base) D_are_bounds k_MOST_BOUNDS c_is_tuple c_is_bound q_all q_len
  have c_are_bounds := cal_of D_are_bounds m_are_bounds G_are_bounds (fun _ _ _ _ _ _ us hl => match us, hl with | [_], _ => rfl)
  have G_read_book := g_read_book (P := P) (w := w) (mg := mg) (base := base) D_read_book c_need_text c_lines_of c_needd c_wishes_until q_len ck_need q_enumerate c_bound_by c_are_bounds
  have c_read_book := cal_of D_read_book m_read_book G_read_book (fun _ _ _ _ _ _ us hl => match us, hl with | [_], _ => rfl)
  have G__law_wish_text := g__law_wish_text (P := P) (w := w) (mg := mg) (base := base) D__law_wish_text q_str
  have c__law_wish_text := cal_of D__law_wish_text m__law_wish_text G__law_wish_text (fun _ _ _ _ _ _ us hl => match us, hl with | [_], _ => rfl)
  have G__law_book_lines := g__law_book_lines (P := P) (w := w) (mg := mg) (base := base) D__law_book_lines c__law_wish_text q_str
  have c__law_book_lines := cal_of D__law_book_lines m__law_book_lines G__law_book_lines (fun _ _ _ _ _ _ us hl => match us, hl with | [_], _ => rfl)
  have G_ended := g_ended (P := P) (w := w) (mg := mg) (base := base) D_ended 
  have c_ended := cal_of D_ended m_ended G_ended (fun _ _ _ _ _ _ us hl => match us, hl with | [_], _ => rfl)
  have G_show_worths := g_show_worths (P := P) (w := w) (mg := mg) (base := base) D_show_worths q_str
  have c_show_worths := cal_of D_show_worths m_show_worths G_show_worths (fun _ _ _ _ _ _ us hl => match us, hl with | [_], _ => rfl)
  have G_show_wish := g_show_wish (P := P) (w := w) (mg := mg) (base := base) D_show_wish c_show_worths q_int q_str
  have c_show_wish := cal_of D_show_wish m_show_wish G_show_wish (fun _ _ _ _ _ _ us hl => match us, hl with | [_], _ => rfl)
  have G_show_book := g_show_book (P := P) (w := w) (mg := mg) (base := base) D_show_book c_show_wish c_show_worths c_ended
  have c_show_book := cal_of D_show_book m_show_book G_show_book (fun _ _ _ _ _ _ us hl => match us, hl with | [_], _ => rfl)
  have G_is_book := g_is_book (P := P) (w := w) (mg := mg) (base := base) D_is_book c_is_tuple c_are_wishes c_are_bounds
  have c_is_book := cal_of D_is_book m_is_book G_is_book (fun _ _ _ _ _ _ us hl => match us, hl with | [_], _ => rfl)
  have G_law := g_law (P := P) (w := w) (mg := mg) (base := base) D_law c__law_pen q_range c__law_any_book q_repr c__law_book_lines c__law_with_ends c_show_book q_str q_isinstance c_read_book c_is_book
  exact G_law
end Hd
open PySem PySem.W PySem.Calls PyProof.Rows
theorem PySem.Challenge.cw_crossedwishes_k76_books_written_and_read_holds : PySem.Challenge.rw_crossedwishes_k76_books_written_and_read.Holds := by
  w_on; o_law
  refine HandSHeadRun.head_any (r := OpenLaw.row PySem.Challenge.rw_crossedwishes_k76_books_written_and_read) (q := view (OpenLaw.row PySem.Challenge.rw_crossedwishes_k76_books_written_and_read).prog [50]) (H := Hd.hk) (ob := Hd.ob) (M := 4000) (loose := Hd.loose) (d := HandSHeadRun.topDef (OpenLaw.row PySem.Challenge.rw_crossedwishes_k76_books_written_and_read).prog 50) (kwd := []) Hd.ob_eq
    (by kernel_rfl) (fun s => by kernel_rfl) Hd.run (by kernel_rfl) (by kernel_rfl) (by kernel_rfl) (by rfl) (by first | assumption | decide +kernel) (by decide +kernel) ⟨rfl, rfl, rfl, rfl, rfl, by decide +kernel⟩ ?hw ?hc
  case hw => w_witness2
  case hc =>
    refine Cw.walk_g (l := PySem.Challenge.rw_crossedwishes_k76_books_written_and_read) (n := 63) (k := 7) (x := "_law_script") (F := Cw.F_law) rfl (by decide) (by kernel_rfl) ⟨rfl, by decide, by decide⟩ ?F Cw.law_true
    intro w mg fa h Y G hmg0
    obtain ⟨K, KX, c⟩ := Y
    have hmg : mg ("law" : PySem.Str) = some (.ref fa) := by
      have e : (HandSHeadRun.topDef (OpenLaw.row PySem.Challenge.rw_crossedwishes_k76_books_written_and_read).prog 50).name = ("law" : PySem.Str) := by kernel_rfl
      rw [← e]
      exact hmg0
    obtain ⟨fd, hb, hF⟩ := Hd.facts (P := (PySem.Challenge.rw_crossedwishes_k76_books_written_and_read).prog) (w := w) KX G hmg c
    exact ⟨K, fd, KX, hb, hF⟩

