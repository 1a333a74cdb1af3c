import PyProof.Rows.All
import Wide.All
import OpenK.AllK
import Wide.FinOn
import HandS.ForMost
import HandS.ForExc
import HandS.HeadHook2
import HandS.Lambda
import HandS.Defaults
import HandS.HeadEnd
import HandS.Deep
import HandS.Small
import HandS.TupAny
import HandS.Style
import HandS.IsInst
import HandS.FStr
import HandS.Flow
import HandS.RaiseMore
import HandS.Iter
import HandS.Text
import HandS.Strs
import KE.GoesEnum
import PyProof.ReprRoads
import KE.KUnpackStar
import HandS.MakeKwOnly
import HandS.SetBool
import HandS.SetKeys
import HandS.SetFor
import HandS.ExcInit
import HandS.ExcIs
import HandS.ExcField
import HandS.ExcValue
import KE.KExcIs
import PyProof.StrOps2
import HandS.FltList
import HandS.HeadHook4
import KE.IntTextLaws
import KE.KStateDown
import Lean
import HandS.Base
import HandS.Call
import HandS.Ends
import HandS.More
import HandS.Words
import HandS.WordsExc
import HandS.Head0
import HandS.Head1
import HandS.Head2
import HandS.HeadHook1
import HandS.HeadHook3
import PySem.Challenge.RW_crossedwishes_k79_texts_of_no_letter
set_option Elab.async false
set_option maxRecDepth 100000
set_option maxHeartbeats 2000000
set_option linter.all false
/-! Values as plain data, a store of owned objects, and how both stand in the abstract heap. -/
namespace Cw
open PySem L2

/-- plain data; ref: an owned object of the store; fn: a function or class of the text; scr: a list that is only read -/
inductive D where
  | non | bl (b : Bool) | int (i : Int) | str (s : Str) | tup (ds : List D) | lst (ds : List D) | scr (ds : List D) | ref (n : Nat) | fn (x : Str) | ty (n : String)

/-- an exception: its class, the field that its own __init__ stored -/
structure Exn where
  cls : Str
  fs : Option (Str × D)
abbrev Env := List (Option D)
/-- a function made by lambda: where it and its code stand, the code's name, the object, what is stored around -/
structure LamR where
  f : Addr
  c : Addr
  q : Str
  o : Obj
  σ : L2.St
  δ : Env
/-- an owned object: it may change; exn: a caught exception; tab: the table of code objects at P, all of the name q -/
inductive Ob where
  | lst (ds : List D)
  | dic (ks : List (Key × D))
  | ins (c : Str) (fs : List (Str × D))
  | exn (x : Exn)
  | tab (P : Addr) (q : Str)
  | lam (L : LamR)

/-- a world: the immutable part of the heap, where the owned objects stand, how many there are -/
structure Wd where
  H : Hp
  a : Nat → Addr
  n : Nat
  /-- objects that nobody knows but who put them there -/
  F : Hp

structure Wd.Le (w w' : Wd) : Prop where
  h : ∀ b o, w.H b = some o → w'.H b = some o
  n : w.n ≤ w'.n
  a : ∀ k, k < w.n → w'.a k = w.a k
  f : w'.F = w.F
theorem Wd.Le.rfl {w : Wd} : w.Le w := ⟨fun _ _ h => h, Nat.le_refl _, fun _ _ => Eq.refl _, Eq.refl _⟩
theorem Wd.Le.trans {w w1 w2 : Wd} (p : w.Le w1) (q : w1.Le w2) : w.Le w2 :=
  ⟨fun b o h => q.h b o (p.h b o h), Nat.le_trans p.n q.n, fun k hk => (q.a k (Nat.lt_of_lt_of_le hk p.n)).trans (p.a k hk), q.f.trans p.f⟩

mutual
def Dat (K : PySem.W.Frag) (w : Wd) : D → V → Prop
  | .non, v => v = .non
  | .bl b, v => v = .bl b
  | .int i, v => v = .int i
  | .str s, v => v = .str s
  | .tup ds, v => ∃ p xs, v = .ref p ∧ SqT K w.H p xs ∧ Dats K w ds xs
  | .lst ds, v => ∃ p xs, v = .ref p ∧ w.H p = some (.lst xs) ∧ Dats K w ds xs
  | .scr ds, v => ∃ p xs, v = .ref p ∧ SqL K w.H p xs ∧ Dats K w ds xs
  | .ref n, v => v = .ref (w.a n) ∧ n < w.n
  | .fn x, v => v = .ref (He.ga K x)
  | .ty n, v => v = .ty n
def Dats (K : PySem.W.Frag) (w : Wd) : List D → List V → Prop
  | [], xs => xs = []
  | d :: ds, xs => ∃ v vs, xs = v :: vs ∧ Dat K w d v ∧ Dats K w ds vs
end

theorem rd_le {w w' : Wd} (e : ∀ b o, w.H b = some o → w'.H b = some o) {p : Addr} {u : HO} (h : Rd w.H p u) : Rd w'.H p u := by
  rcases h with h | ⟨o, h⟩
  · exact .inl (e _ _ h)
  · exact .inr ⟨o, e _ _ h⟩
theorem sqT_le {K : PySem.W.Frag} {w w' : Wd} (e : ∀ b o, w.H b = some o → w'.H b = some o) {p : Addr} {xs : List V} (h : SqT K w.H p xs) : SqT K w'.H p xs := by
  rcases h with h | h
  · exact .inl (rd_le e h)
  · exact .inr h
theorem sqL_le {K : PySem.W.Frag} {w w' : Wd} (e : ∀ b o, w.H b = some o → w'.H b = some o) {p : Addr} {xs : List V} (h : SqL K w.H p xs) : SqL K w'.H p xs := by
  rcases h with h | h
  · exact .inl (rd_le e h)
  · exact .inr h

/-- a world that knows more; its frame may be another one -/
structure Wd.Kn (w w' : Wd) : Prop where
  h : ∀ b o, w.H b = some o → w'.H b = some o
  n : w.n ≤ w'.n
  a : ∀ k, k < w.n → w'.a k = w.a k
theorem Wd.Le.kn {w w' : Wd} (e : w.Le w') : w.Kn w' := ⟨e.h, e.n, e.a⟩
mutual
theorem Dat.kn {K : PySem.W.Frag} {w w' : Wd} (e : w.Kn w') : ∀ {d : D} {v : V}, Dat K w d v → Dat K w' d v
  | .non, _, h => h
  | .bl _, _, h => h
  | .int _, _, h => h
  | .str _, _, h => h
  | .tup _, _, ⟨p, xs, h1, h2, h3⟩ => ⟨p, xs, h1, sqT_le e.h h2, Dats.kn e h3⟩
  | .lst _, _, ⟨p, xs, h1, h2, h3⟩ => ⟨p, xs, h1, e.h _ _ h2, Dats.kn e h3⟩
  | .scr _, _, ⟨p, xs, h1, h2, h3⟩ => ⟨p, xs, h1, sqL_le e.h h2, Dats.kn e h3⟩
  | .ref n, _, ⟨h1, h2⟩ => ⟨by rw [h1, e.a n h2], Nat.lt_of_lt_of_le h2 e.n⟩
  | .fn _, _, h => h
  | .ty _, _, h => h
theorem Dats.kn {K : PySem.W.Frag} {w w' : Wd} (e : w.Kn w') : ∀ {ds : List D} {vs : List V}, Dats K w ds vs → Dats K w' ds vs
  | [], _, h => h
  | _ :: _, _, ⟨v, vs, h1, h2, h3⟩ => ⟨v, vs, h1, Dat.kn e h2, Dats.kn e h3⟩
end
theorem Dat.le {K : PySem.W.Frag} {w w' : Wd} (e : w.Le w') {d : D} {v : V} (h : Dat K w d v) : Dat K w' d v := h.kn e.kn
theorem Dats.le {K : PySem.W.Frag} {w w' : Wd} (e : w.Le w') {d : List D} {v : List V} (h : Dats K w d v) : Dats K w' d v := h.kn e.kn

section
variable {K : PySem.W.Frag} {w w' : Wd}
theorem Dats.nil : Dats K w [] [] := Eq.refl _
theorem Dats.cons {d : D} {ds : List D} {v : V} {vs : List V} (h : Dat K w d v) (t : Dats K w ds vs) : Dats K w (d :: ds) (v :: vs) := ⟨v, vs, Eq.refl _, h, t⟩
theorem Dats.len : ∀ {ds : List D} {vs : List V}, Dats K w ds vs → vs.length = ds.length
  | [], _, h => by
    have e : _ = [] := h
    rw [e]
    exact Eq.refl _
  | _ :: ds, _, ⟨v, vs, h1, _, h3⟩ => by rw [h1, List.length_cons, List.length_cons, Dats.len h3]
theorem Dats.get : ∀ {ds : List D} {vs : List V} {i : Nat} {d : D}, Dats K w ds vs → ds[i]? = some d → ∃ v, vs[i]? = some v ∧ Dat K w d v
  | [], _, i, d, _, e => by simp at e
  | d0 :: ds, _, 0, d, ⟨v, vs, h1, h2, _⟩, e => by
    have e' : d0 = d := by simpa using e
    subst e'
    subst h1
    exact ⟨v, by simp, h2⟩
  | _ :: ds, _, i + 1, d, ⟨v, vs, h1, _, h3⟩, e => by
    obtain ⟨v', h4, h5⟩ := Dats.get (i := i) (d := d) h3 (by simpa using e)
    subst h1
    exact ⟨v', by simpa using h4, h5⟩
theorem Dats.at_ : ∀ {ds : List D} {vs : List V} {i : Nat} {v : V}, Dats K w ds vs → vs[i]? = some v → ∃ d, ds[i]? = some d ∧ Dat K w d v
  | [], _, i, d, h, e => by
    have e' : _ = [] := h
    subst e'
    simp at e
  | d0 :: ds, _, 0, x, ⟨v, vs, h1, h2, _⟩, e => by
    subst h1
    have e' : v = x := by simpa using e
    subst e'
    exact ⟨d0, by simp, h2⟩
  | _ :: ds, _, i + 1, x, ⟨v, vs, h1, _, h3⟩, e => by
    subst h1
    obtain ⟨d, h4, h5⟩ := Dats.at_ (i := i) (v := x) h3 (by simpa using e)
    exact ⟨d, by simpa using h4, h5⟩
theorem Dats.append : ∀ {ds es : List D} {vs us : List V}, Dats K w ds vs → Dats K w es us → Dats K w (ds ++ es) (vs ++ us)
  | [], _, _, _, h, t => by
    have e : _ = [] := h
    subst e
    exact t
  | _ :: _, _, _, _, ⟨v, vs, h1, h2, h3⟩, t => by
    subst h1
    exact ⟨v, _, Eq.refl _, h2, Dats.append h3 t⟩
theorem Dats.set : ∀ {ds : List D} {vs : List V} {d : D} {v : V} (i : Nat), Dats K w ds vs → Dat K w d v → Dats K w (ds.set i d) (vs.set i v)
  | [], _, _, _, i, h, _ => by
    have e : _ = [] := h
    subst e
    exact Dats.nil
  | _ :: _, _, _, _, 0, ⟨v, vs, h1, h2, h3⟩, t => by
    subst h1
    exact ⟨_, _, Eq.refl _, t, h3⟩
  | _ :: _, _, _, _, i + 1, ⟨v, vs, h1, h2, h3⟩, t => by
    subst h1
    exact ⟨_, _, Eq.refl _, h2, Dats.set i h3 t⟩
theorem Dats.take : ∀ {ds : List D} {vs : List V} (n : Nat), Dats K w ds vs → Dats K w (ds.take n) (vs.take n)
  | _, _, 0, _ => by
    rw [List.take_zero, List.take_zero]
    exact Dats.nil
  | [], _, n + 1, h => by
    have e : _ = [] := h
    subst e
    exact Dats.nil
  | _ :: _, _, n + 1, ⟨v, vs, h1, h2, h3⟩ => by
    subst h1
    exact ⟨_, _, Eq.refl _, h2, Dats.take n h3⟩
theorem Dats.drop : ∀ {ds : List D} {vs : List V} (n : Nat), Dats K w ds vs → Dats K w (ds.drop n) (vs.drop n)
  | _, _, 0, h => by
    rw [List.drop_zero, List.drop_zero]
    exact h
  | [], _, n + 1, h => by
    have e : _ = [] := h
    subst e
    exact Dats.nil
  | _ :: _, _, n + 1, ⟨v, vs, h1, h2, h3⟩ => by
    subst h1
    exact Dats.drop n h3
theorem Dats.eraseIdx : ∀ {ds : List D} {vs : List V} (n : Nat), Dats K w ds vs → Dats K w (ds.eraseIdx n) (vs.eraseIdx n)
  | [], _, n, h => by
    have e : _ = [] := h
    subst e
    exact Dats.nil
  | _ :: _, _, 0, ⟨v, vs, h1, h2, h3⟩ => by
    subst h1
    exact h3
  | _ :: _, _, n + 1, ⟨v, vs, h1, h2, h3⟩ => by
    subst h1
    exact ⟨_, _, Eq.refl _, h2, Dats.eraseIdx n h3⟩
theorem Dats.reverse {ds : List D} {vs : List V} (h : Dats K w ds vs) : Dats K w ds.reverse vs.reverse := by
  induction ds generalizing vs with
  | nil =>
    have e : vs = [] := h
    subst e
    exact Dats.nil
  | cons d ds ih =>
    obtain ⟨v, us, h1, h2, h3⟩ := h
    subst h1
    rw [List.reverse_cons, List.reverse_cons]
    exact Dats.append (ih h3) (Dats.cons h2 Dats.nil)
end

/-- pairs of a key and a value -/
def DatA {κ : Type} (K : PySem.W.Frag) (w : Wd) : List (κ × D) → List (κ × V) → Prop
  | [], xs => xs = []
  | p :: ps, xs => ∃ v vs, xs = (p.1, v) :: vs ∧ Dat K w p.2 v ∧ DatA K w ps vs
theorem DatA.kn {κ : Type} {K : PySem.W.Frag} {w w' : Wd} (e : w.Kn w') : ∀ {ps : List (κ × D)} {xs : List (κ × V)}, DatA K w ps xs → DatA K w' ps xs
  | [], _, h => h
  | _ :: _, _, ⟨v, vs, h1, h2, h3⟩ => ⟨v, vs, h1, h2.kn e, DatA.kn e h3⟩
theorem DatA.le {κ : Type} {K : PySem.W.Frag} {w w' : Wd} (e : w.Le w') {ps : List (κ × D)} {xs : List (κ × V)} (h : DatA K w ps xs) : DatA K w' ps xs := h.kn e.kn
theorem DatA.len {κ : Type} {K : PySem.W.Frag} {w : Wd} : ∀ {ps : List (κ × D)} {xs : List (κ × V)}, DatA K w ps xs → xs.length = ps.length
  | [], _, h => by
    have e : _ = [] := h
    rw [e]
    exact Eq.refl _
  | _ :: ps, _, ⟨v, vs, h1, _, h3⟩ => by rw [h1, List.length_cons, List.length_cons, DatA.len h3]
theorem DatA.nil {κ : Type} {K : PySem.W.Frag} {w : Wd} : DatA (κ := κ) K w [] [] := Eq.refl _
def EnvOk (K : PySem.W.Frag) (w : Wd) (σ : L2.St) (δ : Env) : Prop := σ.length = δ.length ∧ ∀ (i : Nat) (d : D), δ[i]? = some (some d) → ∃ v, σ[i]? = some (some v) ∧ Dat K w d v
theorem EnvOk.kn {K : PySem.W.Frag} {w w' : Wd} {σ : L2.St} {δ : Env} (e : w.Kn w') (h : EnvOk K w σ δ) : EnvOk K w' σ δ := ⟨h.1, fun i d q => by
  obtain ⟨v, h1, h2⟩ := h.2 i d q
  exact ⟨v, h1, h2.kn e⟩⟩
theorem EnvOk.le {K : PySem.W.Frag} {w w' : Wd} {σ : L2.St} {δ : Env} (e : w.Le w') (h : EnvOk K w σ δ) : EnvOk K w' σ δ := h.kn e.kn
/-- an exception's class and its dict -/
def ExcAt (K : PySem.W.Frag) (w : Wd) (x : Exn) (c : Value) (od : Option Addr) : Prop :=
  c = .ref (He.ga K x.cls) ∧ match x.fs with
  | none => od = none
  | some (f, d) => ∃ p v, od = some p ∧ w.H p = some (.xd [(f, v)]) ∧ Dat K w d v
theorem ExcAt.kn {K : PySem.W.Frag} {w w' : Wd} (e : w.Kn w') {x : Exn} {c : Value} {od : Option Addr} (h : ExcAt K w x c od) : ExcAt K w' x c od := by
  obtain ⟨cls, fs⟩ := x
  refine ⟨h.1, ?_⟩
  cases fs with
  | none => exact h.2
  | some fd =>
    obtain ⟨f, d⟩ := fd
    obtain ⟨p, v, h1, h2, h3⟩ := h.2
    exact ⟨p, v, h1, e.h _ _ h2, h3.kn e⟩
/-- an exception object that stands by itself -/
def ExV (cls : Value) (d : Option Addr) (a : Addr) : HO := .ext fun h => ∃ (oe : Obj) (vs : Array Value), h.get? a = some oe ∧ Zc cls d oe ∧ oe.data = .fields vs
/-- an owned object as it stands at p -/
def ObAt (K : PySem.W.Frag) (w : Wd) (H : Hp) (p : Addr) : Ob → Prop
  | .lst ds => ∃ xs, H p = some (.lst xs) ∧ Dats K w ds xs
  | .dic ks => ∃ xs, H p = some (.dK xs) ∧ DatA K w ks xs
  | .ins c fs => ∃ dx xs, H p = some (.ins (He.ga K c) dx xs) ∧ DatA K w fs xs
  | .exn x => ∃ c od, ExcAt K w x c od ∧ H p = some (ExV c od p)
  | .tab P q => p = P ∧ ∃ ps : Array Value, H p = some (.tbl ps) ∧ TriplesOk ps.toList ∧ ∀ (pos : Pos) (cv : Value), codeAmong pos ps.toList = some cv → ∃ c, cv = .ref c ∧ w.H c = some (LamX.CodeO c q)
  | .lam L => p = L.f ∧ H p = some (.ext fun h => h.get? L.f = some L.o) ∧ w.H L.c = some (LamX.CodeO L.c L.q) ∧ EnvOk K w L.σ L.δ
theorem ObAt.kn {K : PySem.W.Frag} {w w' : Wd} (e : w.Kn w') {H H' : Hp} {p : Addr} (k : H' p = H p) : ∀ {o : Ob}, ObAt K w H p o → ObAt K w' H' p o
  | .lst _, ⟨xs, h1, h2⟩ => ⟨xs, k.trans h1, h2.kn e⟩
  | .dic _, ⟨xs, h1, h2⟩ => ⟨xs, k.trans h1, h2.kn e⟩
  | .ins _ _, ⟨dx, xs, h1, h2⟩ => ⟨dx, xs, k.trans h1, h2.kn e⟩
  | .exn _, ⟨c, od, h1, h2⟩ => ⟨c, od, h1.kn e, k.trans h2⟩
  | .tab _ _, ⟨h0, ps, h1, h2, h3⟩ => ⟨h0, ps, k.trans h1, h2, fun pos cv z => by
    obtain ⟨c, z1, z2⟩ := h3 pos cv z
    exact ⟨c, z1, e.h _ _ z2⟩⟩
  | .lam _, ⟨h0, h1, h2, h3⟩ => ⟨h0, k.trans h1, e.h _ _ h2, h3.kn e⟩
theorem ObAt.le {K : PySem.W.Frag} {w w' : Wd} (e : w.Le w') {H H' : Hp} {p : Addr} (k : H' p = H p) {o : Ob} (h : ObAt K w H p o) : ObAt K w' H' p o := h.kn e.kn k
theorem ObAt.some {K : PySem.W.Frag} {w : Wd} {H : Hp} {p : Addr} : ∀ {o : Ob}, ObAt K w H p o → ∃ u, H p = some u
  | .lst _, ⟨_, h1, _⟩ => ⟨_, h1⟩
  | .dic _, ⟨_, h1, _⟩ => ⟨_, h1⟩
  | .ins _ _, ⟨_, _, h1, _⟩ => ⟨_, h1⟩
  | .exn _, ⟨_, _, _, h1⟩ => ⟨_, h1⟩
  | .tab _ _, ⟨_, _, h1, _⟩ => ⟨_, h1⟩
  | .lam _, ⟨_, h1, _⟩ => ⟨_, h1⟩

abbrev Sto := List Ob
/-- the store as it stands in the heap -/
structure Rep (K : PySem.W.Frag) (S : Sto) (w : Wd) (H : Hp) : Prop where
  sub : ∀ b o, w.H b = some o → H b = some o
  len : w.n = S.length
  obs : ∀ k o, S[k]? = some o → w.H (w.a k) = none ∧ ObAt K w H (w.a k) o
  inj : ∀ j k, j < w.n → k < w.n → w.a j = w.a k → j = k
  frm : ∀ b o, w.F b = some o → H b = some o ∧ w.H b = none ∧ ∀ k, k < w.n → w.a k ≠ b

section
variable {K : PySem.W.Frag} {S : Sto} {w : Wd} {H : Hp} {p : Addr}
theorem Rep.ex (r : Rep K S w H) : ∀ b o, w.H b = some o → H b = some o := r.sub
theorem Rep.sqT (r : Rep K S w H) {xs : List V} (h : SqT K w.H p xs) : SqT K H p xs := by
  rcases h with (h | ⟨o, h⟩) | h
  · exact .inl (.inl (r.sub _ _ h))
  · exact .inl (.inr ⟨o, r.sub _ _ h⟩)
  · exact .inr h
theorem Rep.sqL (r : Rep K S w H) {xs : List V} (h : SqL K w.H p xs) : SqL K H p xs := by
  rcases h with (h | ⟨o, h⟩) | h
  · exact .inl (.inl (r.sub _ _ h))
  · exact .inl (.inr ⟨o, r.sub _ _ h⟩)
  · exact .inr h
theorem Rep.free (r : Rep K S w H) (hp : H p = none) : w.H p = none := by
  cases e : w.H p with
  | none => rfl
  | some o =>
    rw [r.sub _ _ e] at hp
    cases hp
theorem Rep.ne (r : Rep K S w H) (hp : H p = none) {k : Nat} (hk : k < w.n) : w.a k ≠ p := by
  intro e
  have hk' : k < S.length := by rw [← r.len]; exact hk
  obtain ⟨_, h2⟩ := r.obs k S[k] (by simp [hk'])
  obtain ⟨u, h3⟩ := h2.some
  rw [e, hp] at h3
  cases h3
/-- the world with a new immutable object -/
def Wd.new (w : Wd) (p : Addr) (o : HO) : Wd := { w with H := upd w.H p o }
theorem Wd.new_le (w : Wd) (p : Addr) (o : HO) (hp : w.H p = none) : w.Le (w.new p o) :=
  ⟨fun b u e => by
    show upd w.H p o b = some u
    rw [upd_ne (ne_of_none e hp)]
    exact e, Nat.le_refl _, fun _ _ => rfl, rfl⟩
theorem Rep.new (r : Rep K S w H) (hp : H p = none) (o : HO) : Rep K S (w.new p o) (upd H p o) := by
  have hw := r.free hp
  refine ⟨fun b u e => ?_, r.len, fun k ob e => ?_, r.inj, fun b u e => ?_⟩
  · by_cases hb : b = p
    · subst hb
      have e' : upd w.H b o b = some u := e
      rw [upd_same] at e'
      rw [upd_same]
      exact e'
    · have e' : upd w.H p o b = some u := e
      rw [upd_ne hb] at e'
      rw [upd_ne hb]
      exact r.sub _ _ e'
  · obtain ⟨h1, h2⟩ := r.obs k ob e
    have hk : k < w.n := by
      rw [r.len]
      exact (List.getElem?_eq_some_iff.mp e).1
    have hne := r.ne hp hk
    refine ⟨?_, h2.le (w.new_le p o hw) (upd_ne hne)⟩
    show upd w.H p o (w.a k) = none
    rw [upd_ne hne]
    exact h1
  · obtain ⟨h1, h2, h3⟩ := r.frm b u e
    have hb : b ≠ p := ne_of_none h1 hp
    refine ⟨by rw [upd_ne hb]; exact h1, ?_, h3⟩
    show upd w.H p o b = none
    rw [upd_ne hb]
    exact h2
/-- the world with a new owned object -/
def Wd.own (w : Wd) (p : Addr) : Wd := { w with a := fun k => if k = w.n then p else w.a k, n := w.n + 1 }
theorem Wd.own_le (w : Wd) (p : Addr) : w.Le (w.own p) :=
  ⟨fun _ _ e => e, Nat.le_succ _, fun k hk => by
    show (if k = w.n then p else w.a k) = w.a k
    rw [if_neg (Nat.ne_of_lt hk)], rfl⟩
theorem Wd.own_at (w : Wd) (p : Addr) : (w.own p).a w.n = p := by
  show (if w.n = w.n then p else w.a w.n) = p
  rw [if_pos rfl]
/-- an object that stands new at p is owned from now on -/
theorem Rep.own (r : Rep K S w H) (hp : H p = none) {H' : Hp} (k : ∀ b, b ≠ p → ∀ o, H b = some o → H' b = some o) {o : Ob} (h : ObAt K w H' p o) :
    Rep K (S ++ [o]) (w.own p) H' := by
  have hw := r.free hp
  have low : ∀ j, j < w.n → (w.own p).a j = w.a j := (w.own_le p).a
  refine ⟨fun b u e => k b (ne_of_none (r.sub _ _ e) hp) u (r.sub _ _ e), ?_, fun j ob e => ?_, fun i j hi hj e => ?_, fun b u e => ?_⟩
  · show w.n + 1 = _
    rw [List.length_append, r.len]
    rfl
  · by_cases hj : j < S.length
    · rw [List.getElem?_append_left hj] at e
      obtain ⟨h1, h2⟩ := r.obs j ob e
      have hj' : j < w.n := by rw [r.len]; exact hj
      rw [low j hj']
      obtain ⟨u, hu⟩ := h2.some
      exact ⟨h1, h2.le (w.own_le p) ((k _ (r.ne hp hj') u hu).trans hu.symm)⟩
    · have hj2 : j = S.length := by
        have := (List.getElem?_eq_some_iff.mp e).1
        rw [List.length_append, List.length_singleton] at this
        omega
      subst hj2
      rw [List.getElem?_append_right (Nat.le_refl _), Nat.sub_self] at e
      have e' : o = ob := by simpa using e
      subst e'
      rw [← r.len, w.own_at p]
      exact ⟨hw, h.le (w.own_le p) rfl⟩
  · have hi' : i < w.n + 1 := hi
    have hj' : j < w.n + 1 := hj
    by_cases h1 : i = w.n
    · by_cases h2 : j = w.n
      · rw [h1, h2]
      · have hj3 : j < w.n := by omega
        rw [h1, w.own_at p, low j hj3] at e
        exact absurd e.symm (r.ne hp hj3)
    · have hi3 : i < w.n := by omega
      by_cases h2 : j = w.n
      · rw [h2, w.own_at p, low i hi3] at e
        exact absurd e (r.ne hp hi3)
      · have hj3 : j < w.n := by omega
        rw [low i hi3, low j hj3] at e
        exact r.inj i j hi3 hj3 e
  · obtain ⟨h1, h2, h3⟩ := r.frm b u e
    have hb : b ≠ p := ne_of_none h1 hp
    refine ⟨k b hb u h1, h2, fun j hj => ?_⟩
    have hj' : j < w.n + 1 := hj
    by_cases h4 : j = w.n
    · rw [h4, w.own_at p]
      exact hb.symm
    · rw [low j (by omega)]
      exact h3 j (by omega)
/-- an owned object is written -/
theorem Rep.write (r : Rep K S w H) {n : Nat} (hn : n < w.n) {H' : Hp} (k : ∀ b, b ≠ w.a n → H' b = H b) {o : Ob} (h : ObAt K w H' (w.a n) o) : Rep K (S.set n o) w H' := by
  have hn' : n < S.length := by rw [← r.len]; exact hn
  obtain ⟨h0, _⟩ := r.obs n S[n] (by simp [hn'])
  refine ⟨fun b u e => ?_, by rw [List.length_set]; exact r.len, fun j ob e => ?_, r.inj, fun b u e => ?_⟩
  · rw [k b (ne_of_none e h0)]
    exact r.sub _ _ e
  · have hj : j < w.n := by
      have := (List.getElem?_eq_some_iff.mp e).1
      rw [List.length_set, ← r.len] at this
      exact this
    by_cases hj2 : j = n
    · subst hj2
      rw [List.getElem?_set_self hn'] at e
      have e' : o = ob := by simpa using e
      subst e'
      exact ⟨h0, h⟩
    · rw [List.getElem?_set_ne (Ne.symm hj2)] at e
      obtain ⟨h1, h2⟩ := r.obs j ob e
      refine ⟨h1, h2.le Wd.Le.rfl (k _ fun q => hj2 (r.inj _ _ hj hn q))⟩
  · obtain ⟨h1, h2, h3⟩ := r.frm b u e
    exact ⟨(k b (h3 n hn).symm).trans h1, h2, h3⟩
/-- an object put into the frame: it stands new at p -/
def Wd.frame (w : Wd) (p : Addr) (o : HO) : Wd := { w with F := upd w.F p o }
theorem Rep.frame (r : Rep K S w H) (hp : H p = none) (o : HO) : Rep K S (w.frame p o) (upd H p o) := by
  refine ⟨fun b u e => ?_, r.len, fun k ob e => ?_, r.inj, fun b u e => ?_⟩
  · have e' : w.H b = some u := e
    rw [upd_ne (ne_of_none (r.sub _ _ e') hp)]
    exact r.sub _ _ e'
  · obtain ⟨h1, h2⟩ := r.obs k ob e
    have hk : k < w.n := by
      rw [r.len]
      exact (List.getElem?_eq_some_iff.mp e).1
    exact ⟨h1, ObAt.kn (w := w) (w' := w.frame p o) ⟨fun _ _ e => e, Nat.le_refl _, fun _ _ => rfl⟩ (upd_ne (r.ne hp hk)) h2⟩
  · by_cases hb : b = p
    · subst hb
      have e' : upd w.F b o b = some u := e
      rw [upd_same] at e'
      exact ⟨by rw [upd_same]; exact e', r.free hp, fun k hk => r.ne hp hk⟩
    · have e' : upd w.F p o b = some u := e
      rw [upd_ne hb] at e'
      obtain ⟨h1, h2, h3⟩ := r.frm b u e'
      exact ⟨by rw [upd_ne hb]; exact h1, h2, h3⟩
/-- the framed object is written -/
theorem Rep.framed (r : Rep K S w H) {o o' : HO} (hp : w.F p = some o) : Rep K S (w.frame p o') (upd H p o') := by
  obtain ⟨h1, h2, h3⟩ := r.frm p o hp
  refine ⟨fun b u e => ?_, r.len, fun k ob e => ?_, r.inj, fun b u e => ?_⟩
  · have e' : w.H b = some u := e
    rw [upd_ne (ne_of_none e' h2)]
    exact r.sub _ _ e'
  · obtain ⟨h4, h5⟩ := r.obs k ob e
    have hk : k < w.n := by
      rw [r.len]
      exact (List.getElem?_eq_some_iff.mp e).1
    exact ⟨h4, ObAt.kn (w := w) (w' := w.frame p o') ⟨fun _ _ e => e, Nat.le_refl _, fun _ _ => rfl⟩ (upd_ne (h3 k hk)) h5⟩
  · by_cases hb : b = p
    · subst hb
      have e' : upd w.F b o' b = some u := e
      rw [upd_same] at e'
      exact ⟨by rw [upd_same]; exact e', h2, h3⟩
    · have e' : upd w.F p o' b = some u := e
      rw [upd_ne hb] at e'
      obtain ⟨h4, h5, h6⟩ := r.frm b u e'
      exact ⟨by rw [upd_ne hb]; exact h4, h5, h6⟩
/-- the framed object becomes immutable; the old frame stands again -/
def Wd.thaw (w : Wd) (p : Addr) (o : HO) (F : Hp) : Wd := { w with H := upd w.H p o, F := F }
theorem Rep.thaw (r : Rep K S w H) {o : HO} (hp : w.F p = some o) {F : Hp} (hF : ∀ b, b ≠ p → w.F b = F b) (h0 : F p = none) : Rep K S (w.thaw p o F) H := by
  obtain ⟨h1, h2, h3⟩ := r.frm p o hp
  refine ⟨fun b u e => ?_, r.len, fun k ob e => ?_, r.inj, fun b u e => ?_⟩
  · by_cases hb : b = p
    · subst hb
      have e' : upd w.H b o b = some u := e
      rw [upd_same] at e'
      rw [← e']
      exact h1
    · have e' : upd w.H p o b = some u := e
      rw [upd_ne hb] at e'
      exact r.sub _ _ e'
  · obtain ⟨h4, h5⟩ := r.obs k ob e
    have hk : k < w.n := by
      rw [r.len]
      exact (List.getElem?_eq_some_iff.mp e).1
    refine ⟨?_, ObAt.kn (w := w) (w' := w.thaw p o F) ⟨fun b u e => ?_, Nat.le_refl _, fun _ _ => rfl⟩ rfl h5⟩
    · show upd w.H p o (w.a k) = none
      rw [upd_ne (h3 k hk)]
      exact h4
    · show upd w.H p o b = some u
      rw [upd_ne (ne_of_none e h2)]
      exact e
  · have e' : F b = some u := e
    have hb : b ≠ p := fun q => by
      rw [q, h0] at e'
      cases e'
    obtain ⟨h4, h5, h6⟩ := r.frm b u ((hF b hb).trans e')
    refine ⟨h4, ?_, h6⟩
    show upd w.H p o b = none
    rw [upd_ne hb]
    exact h5
/-- ids are forgotten from n on -/
def Wd.cut (w : Wd) (n : Nat) : Wd := { w with n := n }
end
end Cw

set_option maxRecDepth 100000
set_option maxHeartbeats 2000000
set_option linter.all false
/-! What code does, told by functions upon plain data: the judgements, and the rules for what is common. -/
namespace Cw
open PySem L2

/-! ### outcomes -/
inductive Out (α : Type) where
  | ok (a : α) (S : Sto)
  | exc (x : Exn) (S : Sto)
/-- what an expression, a test, a list of expressions comes to -/
abbrev DE := Env → Sto → Option (Out D)
abbrev DT := Env → Sto → Option (Out Bool)
abbrev DA := Env → Sto → Option (Out (List D))
def bnd {α β : Type} (r : Option (Out α)) (f : α → Sto → Option (Out β)) : Option (Out β) :=
  match r with
  | none => none
  | some (.exc x S) => some (.exc x S)
  | some (.ok a S) => f a S
@[simp] theorem bnd_ok {α β : Type} (a : α) (S : Sto) (f : α → Sto → Option (Out β)) : bnd (some (.ok a S)) f = f a S := rfl
@[simp] theorem bnd_exc {α β : Type} (x : Exn) (S : Sto) (f : α → Sto → Option (Out β)) : bnd (some (.exc x S)) f = some (.exc x S) := rfl
@[simp] theorem bnd_none {α β : Type} (f : α → Sto → Option (Out β)) : bnd none f = none := rfl
/-- a value that is there, the store as it is -/
def up {α : Type} (o : Option α) (S : Sto) : Option (Out α) := match o with
  | none => none
  | some a => some (.ok a S)
@[simp] theorem up_some {α : Type} (a : α) (S : Sto) : up (some a) S = some (.ok a S) := rfl
@[simp] theorem up_none {α : Type} (S : Sto) : up (none : Option α) S = none := rfl

theorem EnvOk.set {K : PySem.W.Frag} {w : Wd} {σ : L2.St} {δ : Env} (h : EnvOk K w σ δ) (i : Nat) {d : D} {v : V} (hv : Dat K w d v) : EnvOk K w (σ.set i (some v)) (δ.set i (some d)) := by
  refine ⟨by rw [List.length_set, List.length_set]; exact h.1, fun j e q => ?_⟩
  by_cases hj : j = i
  · subst hj
    by_cases hl : j < δ.length
    · rw [List.getElem?_set_self hl] at q
      have e' : d = e := by simpa using q
      subst e'
      exact ⟨v, by rw [List.getElem?_set_self (by rw [h.1]; exact hl)], hv⟩
    · rw [List.getElem?_eq_none (by rw [List.length_set]; omega)] at q
      cases q
  · rw [List.getElem?_set_ne (Ne.symm hj)] at q
    obtain ⟨u, h1, h2⟩ := h.2 j e q
    exact ⟨u, by rw [List.getElem?_set_ne (Ne.symm hj)]; exact h1, h2⟩

/-- what is shown of an outcome -/
def Po {α : Type} (K : PySem.W.Frag) (W : WX) (σ : L2.St) (w : Wd) (r : Option (Out α)) (R : α → Sto → Wd → Hp → Prop) : Prop := match r with
  | none => False
  | some (.ok a S') => ∀ w' H', w.Le w' → Rep K S' w' H' → R a S' w' H'
  | some (.exc x S') => ∀ c od w' H', w.Le w' → Rep K S' w' H' → ExcAt K w' x c od → W c od σ H'
theorem Po.mono {α : Type} {K : PySem.W.Frag} {W : WX} {σ : L2.St} {w : Wd} {r : Option (Out α)} {R R' : α → Sto → Wd → Hp → Prop} (h : Po K W σ w r R) (k : ∀ a S' w' H', w.Le w' → Rep K S' w' H' → R a S' w' H' → R' a S' w' H') : Po K W σ w r R' := by
  match r, h with
  | some (.ok a S'), h => exact fun w' H' e r => k a S' w' H' e r (h w' H' e r)
  | some (.exc x S'), h => exact h
theorem Po.bnd {α β : Type} {K : PySem.W.Frag} {W : WX} {σ : L2.St} {w : Wd} {r : Option (Out α)} {f : α → Sto → Option (Out β)} {R : β → Sto → Wd → Hp → Prop} (h : Po K W σ w (bnd r f) R) :
    Po K W σ w r (fun a S' w' _ => Po K W σ w' (f a S') R) := by
  match r, h with
  | some (.ok a S'), h =>
    intro w' H' e _
    have h' : Po K W σ w (f a S') R := h
    match f a S', h' with
    | some (.ok b S''), h' => exact fun w2 H2 e2 r2 => h' w2 H2 (e.trans e2) r2
    | some (.exc x S''), h' => exact fun c od w2 H2 e2 r2 => h' c od w2 H2 (e.trans e2) r2
  | some (.exc x S'), h => exact h
theorem Po.up {α : Type} {K : PySem.W.Frag} {W : WX} {σ : L2.St} {w : Wd} {o : Option α} {S : Sto} {R : α → Sto → Wd → Hp → Prop} {H : Hp} (h : Po K W σ w (up o S) R) (r : Rep K S w H) : ∃ a, o = some a ∧ R a S w H := by
  cases o with
  | none => exact h.elim
  | some a => exact ⟨a, rfl, h w H Wd.Le.rfl r⟩

/-- a value where it is wanted -/
def Got (K : PySem.W.Frag) (Q : VK) : D → Sto → Wd → Hp → Prop := fun d _ w' H' => ∀ v, Dat K w' d v → Q v H'
def Gots (K : PySem.W.Frag) (Q : List V → Hp → Prop) : List D → Sto → Wd → Hp → Prop := fun ds _ w' H' => ∀ vs, Dats K w' ds vs → Q vs H'
def TEv (K : PySem.W.Frag) (W : WX) (A : DE) : TE := fun σ H Q => ∃ δ S w, Rep K S w H ∧ EnvOk K w σ δ ∧ Po K W σ w (A δ S) (Got K Q)
def TTv (K : PySem.W.Frag) (W : WX) (A : DT) : TT := fun σ H Q => ∃ δ S w, Rep K S w H ∧ EnvOk K w σ δ ∧ Po K W σ w (A δ S) (fun b _ _ H' => Q b H')
def TAv (K : PySem.W.Frag) (W : WX) (A : DA) : TA := fun σ H Q => ∃ δ S w, Rep K S w H ∧ EnvOk K w σ δ ∧ Po K W σ w (A δ S) (Gots K Q)

/-- the judgements -/
structure Ev (X : Cx) (W : WX) (e : Expr) (A : DE) : Prop where
  pe : PE X e (TEv X.K W A)
structure Tv (X : Cx) (W : WX) (e : Expr) (A : DT) : Prop where
  pt : PT X e (TTv X.K W A)
structure Av (X : Cx) (W : WX) (es : List Expr) (A : DA) : Prop where
  pa : PA X es (TAv X.K W A)
theorem pe_imp {X : Cx} {e : Expr} {t t' : TE} (h : PE X e t) (k : ∀ σ H Q, t' σ H Q → t σ H Q) : PE X e t' := ⟨fun pins s σ H Q I q => h.run pins s σ H Q I (k σ H Q q)⟩
theorem pt_imp {X : Cx} {e : Expr} {t t' : TT} (h : PT X e t) (k : ∀ σ H Q, t' σ H Q → t σ H Q) : PT X e t' := ⟨fun pins s σ H Q I q => h.run pins s σ H Q I (k σ H Q q)⟩
theorem pa_imp {X : Cx} {e : List Expr} {t t' : TA} (h : PA X e t) (k : ∀ σ H Q, t' σ H Q → t σ H Q) : PA X e t' := ⟨fun pos pins s σ H Q I q => h.run pos pins s σ H Q I (k σ H Q q)⟩
theorem ps_imp {X : Cx} {e : Stmt} {t t' : TS} (h : PS X e t) (k : ∀ D σ H, t' D σ H → t D σ H) : PS X e t' := ⟨fun pins s σ H Q I q => h.run pins s σ H Q I (k Q σ H q)⟩
theorem pss_imp {X : Cx} {e : List Stmt} {t t' : TS} (h : PSs X e t) (k : ∀ D σ H, t' D σ H → t D σ H) : PSs X e t' := ⟨fun pins s σ H Q I q => h.run pins s σ H Q I (k Q σ H q)⟩

section
variable {X : Cx} {W : WX} {pos : Pos}

/-! ### names, constants -/
def dVar (i : Nat) : DE := fun δ S => up (match δ[i]? with | some (some d) => some d | _ => none) S
theorem ev_var {i : Nat} {x : Str} (hN : X.N[i]? = some x := by rfl) (hv : Vis X.env.scope x := by first | exact Or.inl rfl | exact Or.inr (Or.inl rfl) | exact Or.inr (Or.inr rfl)) (hd : (x == ("__debug__" : Str)) = false := by decide)
    (hcd : (x == ("__classdict__" : Str)) = false := by decide) : Ev X W (.Name x pos) (dVar i) := ⟨by
  refine pe_imp (pe_var hN hv hd hcd) fun σ H Q ⟨δ, S, w, r, he, p⟩ => ?_
  obtain ⟨d, hd, g⟩ := Po.up p r
  cases e : δ[i]? with
  | none => rw [e] at hd; cases hd
  | some o =>
    cases o with
    | none => rw [e] at hd; cases hd
    | some d' =>
      rw [e] at hd
      have e' : d' = d := by simpa using hd
      subst e'
      obtain ⟨v, h1, h2⟩ := he.2 i d' e
      exact ⟨v, h1, g v h2⟩⟩
def dC (d : D) : DE := fun _ S => some (.ok d S)
theorem tev_c {K : PySem.W.Frag} {d : D} {v : V} (hv : ∀ w, Dat K w d v) : ∀ σ H Q, TEv K W (dC d) σ H Q → tC v σ H Q := fun σ H Q ⟨δ, S, w, r, _, p⟩ => p w H Wd.Le.rfl r v (hv w)
theorem ev_int {i : Int} {j} : Ev X W (.Constant (.int i) j pos) (dC (.int i)) := ⟨pe_imp pe_int (tev_c fun _ => rfl)⟩
theorem ev_bl {b : Bool} {j} : Ev X W (.Constant (.bool b) j pos) (dC (.bl b)) := ⟨pe_imp pe_bl (tev_c fun _ => rfl)⟩
theorem ev_non {j} : Ev X W (.Constant .none j pos) (dC .non) := ⟨pe_imp pe_non (tev_c fun _ => rfl)⟩
theorem ev_str {x : Str} {j} : Ev X W (.Constant (.str x) j pos) (dC (.str x)) := ⟨pe_imp pe_str (tev_c fun _ => rfl)⟩
/-- a module's constant: an int, a text -/
theorem ev_gint {x : Str} {i : Int} (hg : Gl X x) (hm : ∃ t, X.mg x = some (.int i t)) (hd : (x == ("__debug__" : Str)) = false := by decide) : Ev X W (.Name x pos) (dC (.int i)) := by
  obtain ⟨t, h⟩ := hm
  exact ⟨pe_imp (pe_glob (v := .int i) hg h ⟨t, rfl⟩ hd) (tev_c fun _ => rfl)⟩
theorem ev_gstr {x : Str} {i : Str} (hg : Gl X x) (hm : ∃ t, X.mg x = some (.str i t)) (hd : (x == ("__debug__" : Str)) = false := by decide) : Ev X W (.Name x pos) (dC (.str i)) := by
  obtain ⟨t, h⟩ := hm
  exact ⟨pe_imp (pe_glob (v := .str i) hg h ⟨t, rfl⟩ hd) (tev_c fun _ => rfl)⟩
/-- a module's tuple of plain values -/
theorem ev_gval {x : Str} {d : D} {p : Addr} (hg : Gl X x) (hm : X.mg x = some (.ref p)) (hv : ∀ w, Dat X.K w d (.ref p)) (hd : (x == ("__debug__" : Str)) = false := by decide) : Ev X W (.Name x pos) (dC d) :=
  ⟨pe_imp (pe_glob (v := .ref p) hg hm rfl hd) (tev_c hv)⟩

/-! ### two operands -/
/-- an operation on values: g tells what comes of plain data; it may look at the store, and change it -/
def OpD (K : PySem.W.Frag) (rr : V → V → Hp → VK → Prop) (g : D → D → Sto → Option (D × Sto)) : Prop :=
  ∀ (x y d : D) (S S' : Sto) (w : Wd) (H : Hp) (u v : V) (Q : VK), g x y S = some (d, S') → Rep K S w H → Dat K w x u → Dat K w y v →
    (∀ w' H' z, w.Le w' → Rep K S' w' H' → Dat K w' d z → Q z H') → rr u v H Q
def upS {α : Type} (o : Option (α × Sto)) : Option (Out α) := match o with
  | none => none
  | some (a, S) => some (.ok a S)
@[simp] theorem upS_some {α : Type} (a : α) (S : Sto) : upS (some (a, S)) = some (.ok a S) := rfl
def dOp (g : D → D → Sto → Option (D × Sto)) (A B : DE) : DE := fun δ S => bnd (A δ S) fun x S1 => bnd (B δ S1) fun y S2 => upS (g x y S2)
theorem tev_op {K : PySem.W.Frag} {rr : V → V → Hp → VK → Prop} {g : D → D → Sto → Option (D × Sto)} {A B : DE} (hg : OpD K rr g) : ∀ σ H Q, TEv K W (dOp g A B) σ H Q → tOp rr (TEv K W A) (TEv K W B) σ H Q := fun σ H Q ⟨δ, S, w, r, he, p⟩ => by
  refine ⟨δ, S, w, r, he, p.bnd.mono fun x S1 w1 H1 e1 r1 p1 u hu => ?_⟩
  refine ⟨δ, S1, w1, r1, he.le e1, p1.bnd.mono fun y S2 w2 H2 e2 r2 p2 v hv => ?_⟩
  cases eg : g x y S2 with
  | none =>
    rw [eg] at p2
    exact p2.elim
  | some q =>
    obtain ⟨d, S3⟩ := q
    rw [eg] at p2
    exact hg x y d S2 S3 w2 H2 u v Q eg r2 (hu.le e2) hv fun w' H' z e3 r3 hz => p2 w' H' e3 r3 z hz
theorem ev_op {a b : Expr} {op : Operator} {rr : R2} {g : D → D → Sto → Option (D × Sto)} {A B : DE} (ho : OpR X (binaryOp op) rr) (hg : OpD X.K rr g) (ha : Ev X W a A) (hb : Ev X W b B) : Ev X W (.BinOp a op b pos) (dOp g A B) :=
  ⟨pe_imp (pe_op ho ha.pe hb.pe) (tev_op hg)⟩
theorem ev_cmp {a b : Expr} {op : CmpOp} {rr : R2} {g : D → D → Sto → Option (D × Sto)} {A B : DE} (ho : OpR X (compareOp op) rr) (hg : OpD X.K rr g) (ha : Ev X W a A) (hb : Ev X W b B) (hm : behindInMarks op b = false) : Ev X W (.Compare a [op] [b] pos) (dOp g A B) :=
  ⟨pe_imp (pe_cmpR ho ha.pe hb.pe hm) (tev_op hg)⟩
/-- a value that is a truth, as a test -/
def asT (A : DE) : DT := fun δ S => bnd (A δ S) fun x S1 => up (match x with | .bl b => some b | _ => none) S1
theorem ttv_of {K : PySem.W.Frag} {A : DE} {t : TE} (k : ∀ σ H Q, TEv K W A σ H Q → t σ H Q) : ∀ σ H Q, TTv K W (asT A) σ H Q → tTest t σ H Q := fun σ H Q ⟨δ, S, w, r, he, p⟩ => by
  refine k σ H _ ⟨δ, S, w, r, he, p.bnd.mono fun x S1 w1 H1 e1 r1 p1 u hu => ?_⟩
  obtain ⟨b, hb, q⟩ := p1.up r1
  cases x with
  | bl c =>
    have e : c = b := by simpa using hb
    subst e
    exact ⟨c, hu, q⟩
  | _ => cases hb
theorem tv_cmp {a b : Expr} {op : CmpOp} {rr : R2} {g : D → D → Sto → Option (D × Sto)} {A B : DE} (ho : OpR X (compareOp op) rr) (hg : OpD X.K rr g) (ha : Ev X W a A) (hb : Ev X W b B) (hm : behindInMarks op b = false) : Tv X W (.Compare a [op] [b] pos) (asT (dOp g A B)) :=
  ⟨pt_imp (pt_cmpR ho ha.pe hb.pe hm) (ttv_of (tev_op hg))⟩
theorem tv_val {e : Expr} {A : DE} (h : Ev X W e A) (he : ∀ whole, isTrue e X.env whole = (do let v ← whole; standAt e.pos; holding [v] (truthy v)) := by intro _; rfl) : Tv X W e (asT A) :=
  ⟨pt_imp (pt_val h.pe he) (ttv_of fun _ _ _ h => h)⟩

/-! ### and, or, not, if else -/
def tAndD (A B : DT) : DT := fun δ S => bnd (A δ S) fun x S1 => if x = true then B δ S1 else some (.ok false S1)
def tOrD (A B : DT) : DT := fun δ S => bnd (A δ S) fun x S1 => if x = true then some (.ok true S1) else B δ S1
def tNotD (A : DT) : DT := fun δ S => bnd (A δ S) fun x S1 => some (.ok (!x) S1)
structure Wv (X : Cx) (W : WX) (e : Expr) (A : DT) : Prop where
  pw : PW X e (TTv X.K W A)
theorem pw_imp {X : Cx} {e : Expr} {t t' : TT} (h : PW X e t) (k : ∀ σ H Q, t' σ H Q → t σ H Q) : PW X e t' := ⟨fun wh pins s σ H Q I q => h.run wh pins s σ H Q I (k σ H Q q)⟩
theorem Wv.tv {e : Expr} {A : DT} (h : Wv X W e A) : Tv X W e A := ⟨h.pw.pt⟩
theorem wv_and1 {a : Expr} {A : DT} (h : Tv X W a A) : Wv X W (.BoolOp .And [a] pos) A := ⟨pw_and1 h.pt⟩
theorem wv_or1 {a : Expr} {A : DT} (h : Tv X W a A) : Wv X W (.BoolOp .Or [a] pos) A := ⟨pw_or1 h.pt⟩
theorem wv_and {a b : Expr} {rest : List Expr} {A B : DT} (h : Tv X W a A) (k : Wv X W (.BoolOp .And (b :: rest) pos) B) : Wv X W (.BoolOp .And (a :: b :: rest) pos) (tAndD A B) :=
  ⟨pw_imp (pw_and h.pt k.pw) fun σ H Q ⟨δ, S, w, r, he, p⟩ => ⟨δ, S, w, r, he, p.bnd.mono fun x S1 w1 H1 e1 r1 p1 => by
    cases x with
    | true => exact iteT ⟨δ, S1, w1, r1, he.le e1, p1⟩
    | false => exact iteF (p1 w1 H1 Wd.Le.rfl r1)⟩⟩
theorem wv_or {a b : Expr} {rest : List Expr} {A B : DT} (h : Tv X W a A) (k : Wv X W (.BoolOp .Or (b :: rest) pos) B) : Wv X W (.BoolOp .Or (a :: b :: rest) pos) (tOrD A B) :=
  ⟨pw_imp (pw_or h.pt k.pw) fun σ H Q ⟨δ, S, w, r, he, p⟩ => ⟨δ, S, w, r, he, p.bnd.mono fun x S1 w1 H1 e1 r1 p1 => by
    cases x with
    | true => exact iteT (p1 w1 H1 Wd.Le.rfl r1)
    | false => exact iteF ⟨δ, S1, w1, r1, he.le e1, p1⟩⟩⟩
theorem tv_not {a : Expr} {A : DT} (h : Tv X W a A) : Tv X W (.UnaryOp .Not a pos) (tNotD A) :=
  ⟨pt_imp (pt_not h.pt) fun σ H Q ⟨δ, S, w, r, he, p⟩ => ⟨δ, S, w, r, he, p.bnd.mono fun x S1 w1 H1 e1 r1 p1 => p1 w1 H1 Wd.Le.rfl r1⟩⟩
/-- as values; all but the last are truths -/
def dAnd (A B : DE) : DE := fun δ S => bnd (A δ S) fun x S1 => match x with
  | .bl true => B δ S1
  | .bl false => some (.ok (.bl false) S1)
  | _ => none
def dOr (A B : DE) : DE := fun δ S => bnd (A δ S) fun x S1 => match x with
  | .bl true => some (.ok (.bl true) S1)
  | .bl false => B δ S1
  | _ => none
def dNot (A : DE) : DE := fun δ S => bnd (A δ S) fun x S1 => match x with
  | .bl b => some (.ok (.bl (!b)) S1)
  | _ => none
theorem ev_one {op : BoolOp} {a : Expr} {A : DE} (h : Ev X W a A) : Ev X W (.BoolOp op [a] pos) A := ⟨pe_one h.pe⟩
theorem ev_and {a b : Expr} {rest : List Expr} {A B : DE} (h : Ev X W a A) (k : Ev X W (.BoolOp .And (b :: rest) pos) B) : Ev X W (.BoolOp .And (a :: b :: rest) pos) (dAnd A B) :=
  ⟨pe_imp (pe_and h.pe k.pe) fun σ H Q ⟨δ, S, w, r, he, p⟩ => ⟨δ, S, w, r, he, p.bnd.mono fun x S1 w1 H1 e1 r1 p1 v hv => by
    cases x with
    | bl b =>
      refine ⟨b, hv, ?_⟩
      cases b with
      | true => exact iteT ⟨δ, S1, w1, r1, he.le e1, p1⟩
      | false => exact iteF (p1 w1 H1 Wd.Le.rfl r1 _ rfl)
    | _ => exact p1.elim⟩⟩
theorem ev_or {a b : Expr} {rest : List Expr} {A B : DE} (h : Ev X W a A) (k : Ev X W (.BoolOp .Or (b :: rest) pos) B) : Ev X W (.BoolOp .Or (a :: b :: rest) pos) (dOr A B) :=
  ⟨pe_imp (pe_or h.pe k.pe) fun σ H Q ⟨δ, S, w, r, he, p⟩ => ⟨δ, S, w, r, he, p.bnd.mono fun x S1 w1 H1 e1 r1 p1 v hv => by
    cases x with
    | bl b =>
      refine ⟨b, hv, ?_⟩
      cases b with
      | true => exact iteT (p1 w1 H1 Wd.Le.rfl r1 _ rfl)
      | false => exact iteF ⟨δ, S1, w1, r1, he.le e1, p1⟩
    | _ => exact p1.elim⟩⟩
theorem ev_not {a : Expr} {A : DE} (h : Ev X W a A) : Ev X W (.UnaryOp .Not a pos) (dNot A) :=
  ⟨pe_imp (pe_not h.pe) fun σ H Q ⟨δ, S, w, r, he, p⟩ => ⟨δ, S, w, r, he, p.bnd.mono fun x S1 w1 H1 e1 r1 p1 v hv => by
    cases x with
    | bl b => exact ⟨b, hv, p1 w1 H1 Wd.Le.rfl r1 _ rfl⟩
    | _ => exact p1.elim⟩⟩
def dIf (C : DT) (A B : DE) : DE := fun δ S => bnd (C δ S) fun x S1 => if x = true then A δ S1 else B δ S1
theorem ev_if {c a b : Expr} {C : DT} {A B : DE} (hc : Tv X W c C) (ha : Ev X W a A) (hb : Ev X W b B) : Ev X W (.IfExp c a b pos) (dIf C A B) :=
  ⟨pe_imp (pe_ifExp hc.pt ha.pe hb.pe) fun σ H Q ⟨δ, S, w, r, he, p⟩ => ⟨δ, S, w, r, he, p.bnd.mono fun x S1 w1 H1 e1 r1 p1 => by
    cases x with
    | true => exact iteT ⟨δ, S1, w1, r1, he.le e1, p1⟩
    | false => exact iteF ⟨δ, S1, w1, r1, he.le e1, p1⟩⟩⟩

/-! ### lists of expressions; displays -/
def aNil : DA := fun _ S => some (.ok [] S)
def aCons (A : DE) (B : DA) : DA := fun δ S => bnd (A δ S) fun x S1 => bnd (B δ S1) fun xs S2 => some (.ok (x :: xs) S2)
theorem av_nil : Av X W [] aNil := ⟨pa_imp pa_nil fun σ H Q ⟨δ, S, w, r, he, p⟩ => p w H Wd.Le.rfl r [] rfl⟩
theorem av_cons {e : Expr} {es : List Expr} {A : DE} {B : DA} (h : Ev X W e A) (k : Av X W es B) (hs : starEach (e :: es) X.env = (false, eval e X.env) :: starEach es X.env := by rfl) : Av X W (e :: es) (aCons A B) :=
  ⟨pa_imp (pa_cons h.pe k.pa hs) fun σ H Q ⟨δ, S, w, r, he, p⟩ => ⟨δ, S, w, r, he, p.bnd.mono fun x S1 w1 H1 e1 r1 p1 v hv =>
    ⟨δ, S1, w1, r1, he.le e1, p1.bnd.mono fun xs S2 w2 H2 e2 r2 p2 vs hvs => p2 w2 H2 Wd.Le.rfl r2 _ (Dats.cons (hv.le e2) hvs)⟩⟩⟩
/-- how long a list may be -/
abbrev big : Nat := 1000000
theorem big_line {n : Nat} (h : n ≤ big) : n ≤ sizeLine := Nat.le_trans h (by decide)
theorem big_lt {n : Nat} (h : n < big) : n < sizeLine := Nat.lt_of_lt_of_le h (by decide)
def dTup (A : DA) : DE := fun δ S => bnd (A δ S) fun xs S1 => if xs.length ≤ big then some (.ok (.tup xs) S1) else none
def dLst (A : DA) : DE := fun δ S => bnd (A δ S) fun xs S1 => if xs.length ≤ big then some (.ok (.lst xs) S1) else none
theorem new_tup {K : PySem.W.Frag} {S : Sto} {w : Wd} {H : Hp} {p : Addr} {ds : List D} {xs : List V} (r : Rep K S w H) (hp : H p = none) (h : Dats K w ds xs) :
    w.Le (w.new p (.tup xs)) ∧ Rep K S (w.new p (.tup xs)) (upd H p (.tup xs)) ∧ Dat K (w.new p (.tup xs)) (.tup ds) (.ref p) := by
  have e := w.new_le p (.tup xs) (r.free hp)
  exact ⟨e, r.new hp _, p, xs, rfl, SqT.of (by show upd w.H p _ p = _; rw [upd_same]), h.le e⟩
theorem new_lst {K : PySem.W.Frag} {S : Sto} {w : Wd} {H : Hp} {p : Addr} {ds : List D} {xs : List V} (r : Rep K S w H) (hp : H p = none) (h : Dats K w ds xs) :
    w.Le (w.new p (.lst xs)) ∧ Rep K S (w.new p (.lst xs)) (upd H p (.lst xs)) ∧ Dat K (w.new p (.lst xs)) (.lst ds) (.ref p) := by
  have e := w.new_le p (.lst xs) (r.free hp)
  exact ⟨e, r.new hp _, p, xs, rfl, (by show upd w.H p _ p = _; rw [upd_same]), h.le e⟩
theorem ev_tup {es : List Expr} {k} {A : DA} (h : Av X W es A) : Ev X W (.Tuple es k pos) (dTup A) :=
  ⟨pe_imp (pe_tup h.pa) fun σ H Q ⟨δ, S, w, r, he, p⟩ => ⟨δ, S, w, r, he, p.bnd.mono fun xs S1 w1 H1 e1 r1 p1 vs hvs => by
    by_cases hl : xs.length ≤ big
    · rw [if_pos hl] at p1
      refine ⟨big_line (by rw [hvs.len]; exact hl), fun q hq => ?_⟩
      obtain ⟨h1, h2, h3⟩ := new_tup r1 hq hvs
      exact p1 _ _ h1 h2 _ h3
    · rw [if_neg hl] at p1
      exact p1.elim⟩⟩
theorem ev_lst {es : List Expr} {A : DA} (h : Av X W es A) : Ev X W (.List es pos) (dLst A) :=
  ⟨pe_imp (pe_lst h.pa) fun σ H Q ⟨δ, S, w, r, he, p⟩ => ⟨δ, S, w, r, he, p.bnd.mono fun xs S1 w1 H1 e1 r1 p1 vs hvs => by
    by_cases hl : xs.length ≤ big
    · rw [if_pos hl] at p1
      refine ⟨big_line (by rw [hvs.len]; exact hl), fun q hq => ?_⟩
      obtain ⟨h1, h2, h3⟩ := new_lst r1 hq hvs
      exact p1 _ _ h1 h2 _ h3
    · rw [if_neg hl] at p1
      exact p1.elim⟩⟩
/-- a new list that is owned from now on -/
def dLstO (A : DA) : DE := fun δ S => bnd (A δ S) fun xs S1 => if xs.length ≤ big then some (.ok (.ref S1.length) (S1 ++ [.lst xs])) else none
theorem own_lst {K : PySem.W.Frag} {S : Sto} {w : Wd} {H : Hp} {p : Addr} {ds : List D} {xs : List V} (r : Rep K S w H) (hp : H p = none) (h : Dats K w ds xs) :
    w.Le (w.own p) ∧ Rep K (S ++ [.lst ds]) (w.own p) (upd H p (.lst xs)) ∧ Dat K (w.own p) (.ref S.length) (.ref p) := by
  refine ⟨w.own_le p, r.own hp (fun b hb o e => by rw [upd_ne hb]; exact e) ⟨xs, upd_same, h⟩, ?_, ?_⟩
  · rw [← r.len, w.own_at p]
  · show S.length < w.n + 1
    rw [r.len]
    exact Nat.lt_succ_self _
theorem ev_lstO {es : List Expr} {A : DA} (h : Av X W es A) : Ev X W (.List es pos) (dLstO A) :=
  ⟨pe_imp (pe_lst h.pa) fun σ H Q ⟨δ, S, w, r, he, p⟩ => ⟨δ, S, w, r, he, p.bnd.mono fun xs S1 w1 H1 e1 r1 p1 vs hvs => by
    by_cases hl : xs.length ≤ big
    · rw [if_pos hl] at p1
      refine ⟨big_line (by rw [hvs.len]; exact hl), fun q hq => ?_⟩
      obtain ⟨h1, h2, h3⟩ := own_lst r1 hq hvs
      exact p1 _ _ h1 h2 _ h3
    · rw [if_neg hl] at p1
      exact p1.elim⟩⟩
end
end Cw

set_option maxRecDepth 100000
set_option maxHeartbeats 2000000
set_option linter.all false
/-! Statements, targets, blocks, loops. -/
namespace Cw
open PySem L2

inductive SOut where
  | nx (δ : Env) (S : Sto)
  | ret (d : D) (S : Sto)
  | brk (δ : Env) (S : Sto)
  | ct (δ : Env) (S : Sto)
  | exc (x : Exn) (δ : Env) (S : Sto)
abbrev DS := Env → Sto → Option SOut

/-- what is shown behind a statement -/
def PoS (K : PySem.W.Frag) (W : WX) (w : Wd) (D : Ends) (r : Option SOut) : Prop := match r with
  | none => False
  | some (.nx δ' S') => ∀ σ' w' H', w.Le w' → Rep K S' w' H' → EnvOk K w' σ' δ' → D.nx σ' H'
  | some (.ret d S') => ∀ v w' H', w.Le w' → Rep K S' w' H' → Dat K w' d v → D.rt v H'
  | some (.brk δ' S') => ∀ σ' w' H', w.Le w' → Rep K S' w' H' → EnvOk K w' σ' δ' → D.bk σ' H'
  | some (.ct δ' S') => ∀ σ' w' H', w.Le w' → Rep K S' w' H' → EnvOk K w' σ' δ' → D.ct σ' H'
  | some (.exc x δ' S') => ∀ c od σ' w' H', w.Le w' → Rep K S' w' H' → EnvOk K w' σ' δ' → ExcAt K w' x c od → W c od σ' H'
theorem PoS.le {K : PySem.W.Frag} {W : WX} {w w1 : Wd} {D : Ends} {r : Option SOut} (e : w.Le w1) (h : PoS K W w D r) : PoS K W w1 D r := by
  match r, h with
  | some (.nx δ' S'), h => exact fun σ' w' H' e' => h σ' w' H' (e.trans e')
  | some (.ret d S'), h => exact fun v w' H' e' => h v w' H' (e.trans e')
  | some (.brk δ' S'), h => exact fun σ' w' H' e' => h σ' w' H' (e.trans e')
  | some (.ct δ' S'), h => exact fun σ' w' H' e' => h σ' w' H' (e.trans e')
  | some (.exc x δ' S'), h => exact fun c od σ' w' H' e' => h c od σ' w' H' (e.trans e')
/-- an expression's outcome, then a statement's -/
def bndS {α : Type} (r : Option (Out α)) (δ : Env) (f : α → Sto → Option SOut) : Option SOut := match r with
  | none => none
  | some (.exc x S) => some (.exc x δ S)
  | some (.ok a S) => f a S
@[simp] theorem bndS_ok {α : Type} (a : α) (S : Sto) (δ : Env) (f : α → Sto → Option SOut) : bndS (some (.ok a S)) δ f = f a S := rfl
@[simp] theorem bndS_exc {α : Type} (x : Exn) (S : Sto) (δ : Env) (f : α → Sto → Option SOut) : bndS (some (.exc x S)) δ f = some (.exc x δ S) := rfl
@[simp] theorem bndS_none {α : Type} (δ : Env) (f : α → Sto → Option SOut) : bndS (none : Option (Out α)) δ f = none := rfl
theorem PoS.bnd {α : Type} {K : PySem.W.Frag} {W : WX} {w : Wd} {D : Ends} {r : Option (Out α)} {δ : Env} {f : α → Sto → Option SOut} {σ : L2.St} (he : EnvOk K w σ δ) (h : PoS K W w D (bndS r δ f)) :
    Po K W σ w r (fun a S' w' _ => PoS K W w' D (f a S')) := by
  match r, h with
  | some (.ok a S'), h =>
    intro w' H' e _
    exact PoS.le (r := f a S') e h
  | some (.exc x S'), h => exact fun c od w' H' e r hx => h c od σ w' H' e r (he.le e) hx
def TSv (K : PySem.W.Frag) (W : WX) (A : DS) : TS := fun D σ H => ∃ δ S w, Rep K S w H ∧ EnvOk K w σ δ ∧ PoS K W w D (A δ S)
structure Sv (X : Cx) (W : WX) (st : Stmt) (A : DS) : Prop where
  ps : PS X st (TSv X.K W A)
structure Bv (X : Cx) (W : WX) (st : List Stmt) (A : DS) : Prop where
  pss : PSs X st (TSv X.K W A)

/-! ### targets -/
abbrev DG := D → Env → Sto → Option Env
/-- but for the slots ws nothing is stored -/
def But (ws : List Nat) (σ σ' : L2.St) : Prop := σ'.length = σ.length ∧ ∀ i, i ∉ ws → σ'[i]? = σ[i]?
theorem But.rfl {ws : List Nat} {σ : L2.St} : But ws σ σ := ⟨Eq.refl _, fun _ _ => Eq.refl _⟩
theorem But.trans {ws us : List Nat} {σ σ1 σ2 : L2.St} (a : But ws σ σ1) (b : But us σ1 σ2) : But (ws ++ us) σ σ2 := ⟨b.1.trans a.1, fun i hi => by
  rw [List.mem_append, not_or] at hi
  exact (b.2 i hi.2).trans (a.2 i hi.1)⟩
def TGv (K : PySem.W.Frag) (ws : List Nat) (G : DG) : TG := fun v σ H Q => ∃ d δ S w δ', Rep K S w H ∧ EnvOk K w σ δ ∧ Dat K w d v ∧ G d δ S = some δ' ∧ ∀ σ' w' H', w.Le w' → Rep K S w' H' → EnvOk K w' σ' δ' → But ws σ σ' → Q σ' H'
structure Gv (X : Cx) (tg : Expr) (ws : List Nat) (G : DG) : Prop where
  pg : PG X tg (TGv X.K ws G)
abbrev DGs := List D → Env → Sto → Option Env
def TGsv (K : PySem.W.Frag) (ws : List Nat) (G : DGs) : TGs := fun vs σ H Q => ∃ ds δ S w δ', Rep K S w H ∧ EnvOk K w σ δ ∧ Dats K w ds vs ∧ G ds δ S = some δ' ∧ ∀ σ' w' H', w.Le w' → Rep K S w' H' → EnvOk K w' σ' δ' → But ws σ σ' → Q σ' H'
structure Gsv (X : Cx) (tg : List Expr) (ws : List Nat) (G : DGs) : Prop where
  pgs : PGs X tg (TGsv X.K ws G)
theorem pg_imp {X : Cx} {e : Expr} {t t' : TG} (h : PG X e t) (k : ∀ v σ H Q, t' v σ H Q → t v σ H Q) : PG X e t' := ⟨fun pins s σ H v u Q I r q => h.run pins s σ H v u Q I r (k v σ H Q q)⟩
theorem pgs_imp {X : Cx} {e : List Expr} {t t' : TGs} (h : PGs X e t) (k : ∀ v σ H Q, t' v σ H Q → t v σ H Q) : PGs X e t' := ⟨fun pins s σ H v u Q I r q => h.run pins s σ H v u Q I r (k v σ H Q q)⟩
theorem pg_or {X : Cx} {e : Expr} {t t' : TG} (h : PG X e t) (h' : PG X e t') : PG X e (fun v σ H Q => t v σ H Q ∨ t' v σ H Q) := ⟨fun pins s σ H v u Q I r q => q.elim (h.run pins s σ H v u Q I r) (h'.run pins s σ H v u Q I r)⟩
section
variable {X : Cx} {W : WX} {pos : Pos}
def gNm (i : Nat) : DG := fun d δ _ => some (δ.set i (some d))
theorem gv_name {i : Nat} {x : Str} (hN : X.N.Nodup) (hi : X.N[i]? = some x := by rfl) (hx : Loc X.env.scope x := by first | exact Or.inl rfl | exact Or.inr rfl) (hf : X.fn x = true ∨ X.env.scope.names.lookup x = some .local := by first | exact .inl rfl | exact .inr rfl) : Gv X (.Name x pos) [i] (gNm i) :=
  ⟨pg_imp (pg_name hN hi hx hf) fun v σ H Q ⟨d, δ, S, w, δ', r, he, hd, hg, k⟩ => by
    have e : δ.set i (some d) = δ' := by simpa [gNm] using hg
    subst e
    exact k _ w H Wd.Le.rfl r (he.set i hd) ⟨List.length_set, fun j hj => List.getElem?_set_ne (fun q => hj (by rw [q]; exact List.mem_singleton.mpr (Eq.refl _)))⟩⟩
def gsNil : DGs := fun ds δ _ => match ds with | [] => some δ | _ :: _ => none
def gsCons (G : DG) (T : DGs) : DGs := fun ds δ S => match ds with | [] => none | d :: r => (G d δ S).bind fun δ1 => T r δ1 S
theorem gsv_nil : Gsv X [] [] gsNil := ⟨pgs_imp pgs_nil fun v σ H Q ⟨ds, δ, S, w, δ', r, he, hd, hg, k⟩ => by
  cases ds with
  | nil =>
    have e : δ = δ' := by simpa [gsNil] using hg
    subst e
    exact ⟨hd, k _ w H Wd.Le.rfl r he But.rfl⟩
  | cons d ds => cases hg⟩
theorem gsv_cons {e : Expr} {es : List Expr} {ws us : List Nat} {G : DG} {T : DGs} (h1 : Gv X e ws G) (h2 : Gsv X es us T) (hs : (assignEach (e :: es) X.env).map (·.2) = assign e X.env :: (assignEach es X.env).map (·.2) := by rfl) : Gsv X (e :: es) (ws ++ us) (gsCons G T) :=
  ⟨pgs_imp (pgs_cons h1.pg h2.pgs hs) fun v σ H Q ⟨ds, δ, S, w, δ', r, he, hd, hg, k⟩ => by
    cases ds with
    | nil => cases hg
    | cons d ds =>
      obtain ⟨u, us, e, hu, hus⟩ := hd
      obtain ⟨δ1, g1, g2⟩ := Option.bind_eq_some_iff.mp hg
      exact ⟨u, us, e, d, δ, S, w, δ1, r, he, hu, g1, fun σ1 w1 H1 e1 r1 he1 b1 => ⟨ds, δ1, S, w1, δ', r1, he1, hus.le e1, g2, fun σ2 w2 H2 e2 r2 he2 b2 => k σ2 w2 H2 (e1.trans e2) r2 he2 (b1.trans b2)⟩⟩⟩
/-- what a list or tuple holds -/
def items (S : Sto) : D → Option (List D)
  | .tup ds => some ds
  | .lst ds => some ds
  | .scr ds => some ds
  | .ref n => match S[n]? with
    | some (.lst ds) => some ds
    | _ => none
  | _ => none
theorem items_at {K : PySem.W.Frag} {S : Sto} {w : Wd} {H : Hp} {d : D} {v : V} {ds : List D} (r : Rep K S w H) (hv : Dat K w d v) (h : items S d = some ds) : ∃ p xs, v = .ref p ∧ (SqL K H p xs ∨ SqT K H p xs) ∧ Dats K w ds xs := by
  cases d with
  | tup es =>
    obtain ⟨p, xs, e, h1, h2⟩ := hv
    have e' : es = ds := by simpa [items] using h
    subst e'
    exact ⟨p, xs, e, .inr (r.sqT h1), h2⟩
  | lst es =>
    obtain ⟨p, xs, e, h1, h2⟩ := hv
    have e' : es = ds := by simpa [items] using h
    subst e'
    exact ⟨p, xs, e, .inl (SqL.of (r.sub _ _ h1)), h2⟩
  | scr es =>
    obtain ⟨p, xs, e, h1, h2⟩ := hv
    have e' : es = ds := by simpa [items] using h
    subst e'
    exact ⟨p, xs, e, .inl (r.sqL h1), h2⟩
  | ref n =>
    obtain ⟨e, hn⟩ := hv
    have h0 : (match S[n]? with | some (.lst ds) => some ds | _ => none) = some ds := h
    cases q : S[n]? with
    | none => rw [q] at h0; cases h0
    | some o =>
      rw [q] at h0
      obtain ⟨_, h2⟩ := r.obs n o q
      cases o with
      | lst es =>
        have e' : es = ds := by simpa using h0
        subst e'
        obtain ⟨xs, h3, h4⟩ := h2
        exact ⟨_, xs, e, .inl (SqL.of h3), h4⟩
      | _ => cases h0
  | _ => cases h
def gSeq (n : Nat) (T : DGs) : DG := fun d δ S => match items S d with | some ds => if ds.length = n then T ds δ S else none | none => none
theorem gv_seq {es : List Expr} {k : Nat} {ws : List Nat} {T : DGs} {n : Nat} (hc : X.calm = true) (h : Gsv X es ws T) (hn : (assignEach es X.env).length = n := by rfl) (hst : (assignEach es X.env).findIdx? (·.1) = none := by rfl) : Gv X (.Tuple es k pos) ws (gSeq n T) :=
  ⟨pg_imp (pg_or (pg_tup hc h.pgs hn hst) (pg_lst hc h.pgs hn hst)) fun v σ H Q ⟨d, δ, S, w, δ', r, he, hd, hg, kk⟩ => by
    unfold gSeq at hg
    cases q : items S d with
    | none => rw [q] at hg; cases hg
    | some ds =>
      rw [q] at hg
      obtain ⟨p, xs, e, h1, h2⟩ := items_at r hd q
      have hg' : (if ds.length = n then T ds δ S else none) = some δ' := hg
      by_cases hl : ds.length = n
      · rw [if_pos hl] at hg'
        have hl' : xs.length = n := by rw [h2.len]; exact hl
        rcases h1 with h1 | h1
        · exact .inr ⟨p, xs, e, h1, hl', ds, δ, S, w, δ', r, he, h2, hg', kk⟩
        · exact .inl ⟨p, xs, e, h1, hl', ds, δ, S, w, δ', r, he, h2, hg', kk⟩
      · rw [if_neg hl] at hg'
        cases hg'⟩

/-! ### small statements, blocks -/
def sNext : DS := fun δ S => some (.nx δ S)
def sSeq (A B : DS) : DS := fun δ S => match A δ S with
  | none => none
  | some (.nx δ1 S1) => B δ1 S1
  | some o => some o
theorem bv_nil : Bv X W [] sNext := ⟨pss_imp pss_nil fun D σ H ⟨δ, S, w, r, he, p⟩ => p σ w H Wd.Le.rfl r he⟩
theorem bv_one {st : Stmt} {A : DS} (h : Sv X W st A) : Bv X W [st] A := ⟨pss_one h.ps⟩
theorem seq_ok {K : PySem.W.Frag} {A B : DS} : ∀ D σ H, TSv K W (sSeq A B) D σ H → tSeq (TSv K W A) (TSv K W B) D σ H := fun D σ H ⟨δ, S, w, r, he, p⟩ => by
  refine ⟨δ, S, w, r, he, ?_⟩
  unfold sSeq at p
  cases q : A δ S with
  | none => rw [q] at p; exact p.elim
  | some o =>
    rw [q] at p
    cases o with
    | nx δ1 S1 => exact fun σ1 w1 H1 e1 r1 he1 => ⟨δ1, S1, w1, r1, he1, PoS.le (r := B δ1 S1) e1 p⟩
    | ret d S1 => exact p
    | brk δ1 S1 => exact p
    | ct δ1 S1 => exact p
    | exc x δ1 S1 => exact p
theorem bv_cons {st : Stmt} {rest : List Stmt} {A B : DS} (h : Sv X W st A) (k : Bv X W rest B) : Bv X W (st :: rest) (sSeq A B) := ⟨pss_imp (pss_cons h.ps k.pss) seq_ok⟩
theorem sv_pass : Sv X W (.Pass pos) sNext := ⟨ps_imp ps_pass fun D σ H ⟨δ, S, w, r, he, p⟩ => p σ w H Wd.Le.rfl r he⟩
def sBrk : DS := fun δ S => some (.brk δ S)
def sCt : DS := fun δ S => some (.ct δ S)
theorem sv_break : Sv X W (.Break pos) sBrk := ⟨ps_imp ps_break fun D σ H ⟨δ, S, w, r, he, p⟩ => p σ w H Wd.Le.rfl r he⟩
theorem sv_continue : Sv X W (.Continue pos) sCt := ⟨ps_imp ps_continue fun D σ H ⟨δ, S, w, r, he, p⟩ => p σ w H Wd.Le.rfl r he⟩
/-- a statement that is never reached -/
def sNever : DS := fun _ _ => none
theorem sv_never {st : Stmt} : Sv X W st sNever := ⟨ps_imp ps_never fun D σ H ⟨δ, S, w, r, he, p⟩ => p.elim⟩
def sExpr (A : DE) : DS := fun δ S => bndS (A δ S) δ fun _ S1 => some (.nx δ S1)
theorem sv_expr {e : Expr} {A : DE} (h : Ev X W e A) (hs : swapsWith e none pos.line X.env = pure false := by rfl) : Sv X W (.Expr e pos) (sExpr A) :=
  ⟨ps_imp (ps_expr h.pe hs) fun D σ H ⟨δ, S, w, r, he, p⟩ => ⟨δ, S, w, r, he, (p.bnd he).mono fun d S1 w1 H1 e1 r1 p1 v hv => p1 σ w1 H1 Wd.Le.rfl r1 (he.le e1)⟩⟩
def sRet (A : DE) : DS := fun δ S => bndS (A δ S) δ fun d S1 => some (.ret d S1)
theorem sv_ret {e : Expr} {A : DE} (h : Ev X W e A) : Sv X W (.Return (some e) pos) (sRet A) :=
  ⟨ps_imp (ps_ret h.pe) fun D σ H ⟨δ, S, w, r, he, p⟩ => ⟨δ, S, w, r, he, (p.bnd he).mono fun d S1 w1 H1 e1 r1 p1 v hv => p1 v w1 H1 Wd.Le.rfl r1 hv⟩⟩
def sRetN : DS := fun _ S => some (.ret .non S)
theorem sv_retN : Sv X W (.Return none pos) sRetN := ⟨ps_imp ps_retN fun D σ H ⟨δ, S, w, r, he, p⟩ => p .non w H Wd.Le.rfl r rfl⟩
def sIf (C : DT) (A B : DS) : DS := fun δ S => bndS (C δ S) δ fun b S1 => if b = true then A δ S1 else B δ S1
theorem sv_if {c : Expr} {p q : List Stmt} {C : DT} {A B : DS} (hc : Tv X W c C) (ha : Bv X W p A) (hb : Bv X W q B) : Sv X W (.If c p q pos) (sIf C A B) :=
  ⟨ps_imp (ps_if hc.pt ha.pss hb.pss) fun D σ H ⟨δ, S, w, r, he, p⟩ => ⟨δ, S, w, r, he, (p.bnd he).mono fun b S1 w1 H1 e1 r1 p1 => by
    cases b with
    | true => exact iteT ⟨δ, S1, w1, r1, he.le e1, p1⟩
    | false => exact iteF ⟨δ, S1, w1, r1, he.le e1, p1⟩⟩⟩
/-- target = e -/
def sAsg (A : DE) (G : DG) : DS := fun δ S => bndS (A δ S) δ fun d S1 => match G d δ S1 with | some δ1 => some (.nx δ1 S1) | none => none
theorem asg_ok {K : PySem.W.Frag} {A : DE} {ws : List Nat} {G : DG} {g : TG} (hg : ∀ v σ H Q, TGv K ws G v σ H Q → g v σ H Q) : ∀ D σ H, TSv K W (sAsg A G) D σ H → tAsg (TEv K W A) g D σ H := fun D σ H ⟨δ, S, w, r, he, p⟩ =>
  ⟨δ, S, w, r, he, (p.bnd he).mono fun d S1 w1 H1 e1 r1 p1 v hv => hg _ _ _ _ (by
    cases q : G d δ S1 with
    | none => rw [q] at p1; exact p1.elim
    | some δ1 =>
      rw [q] at p1
      exact ⟨d, δ, S1, w1, δ1, r1, he.le e1, hv, q, fun σ' w' H' e2 r2 he2 _ => p1 σ' w' H' e2 r2 he2⟩)⟩
theorem sv_asg {tg e : Expr} {A : DE} {ws : List Nat} {G : DG} (h : Ev X W e A) (hg : Gv X tg ws G) (hs : swapsWithSole [tg] e pos.line X.env = pure false := by rfl) (hw : swappedStores [tg] e X.env = pure none := by rfl)
    (h1 : (assignEach [tg] X.env).map (·.2) = [assign tg X.env] := by rfl) : Sv X W (.Assign [tg] e pos) (sAsg A G) := ⟨ps_imp (ps_asg h.pe hg.pg hs hw h1) (asg_ok fun _ _ _ _ h => h)⟩
theorem gName_ok {K : PySem.W.Frag} {i : Nat} : ∀ v σ H Q, TGv K [i] (gNm i) v σ H Q → gName i v σ H Q := fun v σ H Q ⟨d, δ, S, w, δ', r, he, hd, hg, k⟩ => by
  have e : δ.set i (some d) = δ' := by simpa [gNm] using hg
  subst e
  exact k _ w H Wd.Le.rfl r (he.set i hd) ⟨List.length_set, fun j hj => List.getElem?_set_ne (fun q => hj (by rw [q]; exact List.mem_singleton.mpr rfl))⟩
theorem sv_set {i : Nat} {x : Str} {e : Expr} {A : DE} {pos' : Pos} (h : Ev X W e A) (hN : X.N.Nodup) (hi : X.N[i]? = some x := by rfl) (hx : Loc X.env.scope x := by first | exact Or.inl rfl | exact Or.inr rfl) (hs : swapsWith e (some (.Name x pos')) pos.line X.env = pure false := by rfl)
    (hf : X.fn x = true ∨ X.env.scope.names.lookup x = some .local := by first | exact .inl rfl | exact .inr rfl) : Sv X W (.Assign [.Name x pos'] e pos) (sAsg A (gNm i)) :=
  ⟨ps_imp (ps_set hN hi hx h.pe hs hf) (asg_ok (ws := [i]) gName_ok)⟩

/-! ### loops -/
/-- a turn's end, then the next turn -/
def contD (o : Option SOut) (k : DS) : Option SOut := match o with
  | none => none
  | some (.nx δ2 S2) => k δ2 S2
  | some (.ct δ2 S2) => k δ2 S2
  | some (.brk δ2 S2) => some (.nx δ2 S2)
  | some (.ret d S2) => some (.ret d S2)
  | some (.exc x δ2 S2) => some (.exc x δ2 S2)
@[simp] theorem contD_nx (δ : Env) (S : Sto) (k : DS) : contD (some (.nx δ S)) k = k δ S := rfl
@[simp] theorem contD_ct (δ : Env) (S : Sto) (k : DS) : contD (some (.ct δ S)) k = k δ S := rfl
@[simp] theorem contD_brk (δ : Env) (S : Sto) (k : DS) : contD (some (.brk δ S)) k = some (.nx δ S) := rfl
@[simp] theorem contD_ret (d : D) (S : Sto) (k : DS) : contD (some (.ret d S)) k = some (.ret d S) := rfl
@[simp] theorem contD_exc (x : Exn) (δ : Env) (S : Sto) (k : DS) : contD (some (.exc x δ S)) k = some (.exc x δ S) := rfl
/-- one turn behind another -/
def forD (G : DG) (B : DS) : List D → DS
  | [], δ, S => some (.nx δ S)
  | d :: ds, δ, S => match G d δ S with
    | none => none
    | some δ1 => contD (B δ1 S) (forD G B ds)
/-- the readings of one turn -/
theorem for_turn {K : PySem.W.Frag} {ws : List Nat} {G : DG} {B : DS} {d : D} {ds : List D} {v : V} {δ : Env} {S : Sto} {w : Wd} {σ : L2.St} {H : Hp} {D : Ends} {N : L2.St → Hp → Prop} (r : Rep K S w H) (he : EnvOk K w σ δ) (hv : Dat K w d v) (p : PoS K W w D (forD G B (d :: ds) δ S))
    (k : ∀ δ' S' σ' w' H', w.Le w' → Rep K S' w' H' → EnvOk K w' σ' δ' → PoS K W w' D (forD G B ds δ' S') → N σ' H') :
    TGv K ws G v σ H fun σ2 H2 => TSv K W B { D with nx := N, ct := N, bk := D.nx } σ2 H2 := by
  unfold forD at p
  cases q : G d δ S with
  | none => rw [q] at p; exact p.elim
  | some δ1 =>
    rw [q] at p
    refine ⟨d, δ, S, w, δ1, r, he, hv, q, fun σ2 w2 H2 e2 r2 he2 _ => ⟨δ1, S, w2, r2, he2, ?_⟩⟩
    have p' : PoS K W w2 D (contD (B δ1 S) (forD G B ds)) := PoS.le e2 p
    cases q2 : B δ1 S with
    | none => rw [q2] at p'; exact p'.elim
    | some o =>
      rw [q2] at p'
      cases o with
      | nx δ2 S2 => exact fun σ3 w3 H3 e3 r3 he3 => k δ2 S2 σ3 w3 H3 (e2.trans e3) r3 he3 (PoS.le (r := forD G B ds δ2 S2) e3 p')
      | ct δ2 S2 => exact fun σ3 w3 H3 e3 r3 he3 => k δ2 S2 σ3 w3 H3 (e2.trans e3) r3 he3 (PoS.le (r := forD G B ds δ2 S2) e3 p')
      | brk δ2 S2 => exact p'
      | ret d S1 => exact p'
      | exc x δ1 S1 => exact p'
/-- what is walked, told by its items at the start -/
abbrev DI := Env → Sto → Option (Out (List D))
def sFor (I : DI) (G : DG) (B : DS) : DS := fun δ S => bndS (I δ S) δ fun ds S1 => forD G B ds δ S1
/-- over a list or tuple that is nobody's -/
def still : D → Option (List D)
  | .tup ds => some ds
  | .lst ds => some ds
  | .scr ds => some ds
  | _ => none
theorem still_at {K : PySem.W.Frag} {w : Wd} {d : D} {v : V} {ds : List D} (hv : Dat K w d v) (h : still d = some ds) : ∃ p xs, v = .ref p ∧ (SqL K w.H p xs ∨ SqT K w.H p xs) ∧ Dats K w ds xs := by
  cases d with
  | tup es =>
    obtain ⟨p, xs, e, h1, h2⟩ := hv
    have e' : es = ds := by simpa [still] using h
    subst e'
    exact ⟨p, xs, e, .inr h1, h2⟩
  | lst es =>
    obtain ⟨p, xs, e, h1, h2⟩ := hv
    have e' : es = ds := by simpa [still] using h
    subst e'
    exact ⟨p, xs, e, .inl (SqL.of h1), h2⟩
  | scr es =>
    obtain ⟨p, xs, e, h1, h2⟩ := hv
    have e' : es = ds := by simpa [still] using h
    subst e'
    exact ⟨p, xs, e, .inl h1, h2⟩
  | _ => cases h
/-- a walk that yields these items, one behind another, whatever else happens -/
def WalkD (K : PySem.W.Frag) (J : It) (ds : List D) (w1 : Wd) : Prop := ∀ (i : Nat) (S' : Sto) (w' : Wd) (H' : Hp), w1.Kn w' → Rep K S' w' H' →
  (∀ d, ds[i]? = some d → J.go i H' ∧ ∀ x H2, J.yld i H' x H2 → ∃ w2, w'.Le w2 ∧ Rep K S' w2 H2 ∧ Dat K w2 d x) ∧ (ds.length ≤ i → J.stop i H')
def TIv (K : PySem.W.Frag) (W : WX) (I : DI) : TI := fun σ H R => ∃ δ S w, Rep K S w H ∧ EnvOk K w σ δ ∧ Po K W σ w (I δ S) (fun ds _ w1 H1 => ∀ J, WalkD K J ds w1 → R J H1)
structure Iv (X : Cx) (W : WX) (tg iter : Expr) (I : DI) : Prop where
  pi : PI X tg iter (TIv X.K W I)
theorem pi_imp {X : Cx} {tg e : Expr} {t t' : TI} (h : PI X tg e t) (k : ∀ σ H Q, t' σ H Q → t σ H Q) : PI X tg e t' := ⟨fun pins s σ H Q I q => h.run pins s σ H Q I (k σ H Q q)⟩
/-- a walk over a list or a tuple -/
def iBoth (K : PySem.W.Frag) (tl : TE) : TI := fun σ H R => tl σ H fun x H1 => ∃ a, x = .ref a ∧ (((∃ xs, SqL K H1 a xs) ∧ R (Itl K a) H1) ∨ ((∃ xs, SqT K H1 a xs) ∧ R (Itt K a) H1))
theorem pi_both {tg l : Expr} {tl : TE} (hl : PE X l tl) : PI X tg l (iBoth X.K tl) := by
  refine ⟨fun pins s σ H R I h => ?_⟩
  refine thn (hl.run pins s σ H _ I h) fun v s1 ⟨x, H1, I1, r1, a, e, q⟩ => ?_
  subst e
  cases r1
  have fp : ∀ b ∈ [s1.heap.objs.size], FpOk X pins H1 b := fun b hb => by
    rw [List.mem_singleton.mp hb]
    exact I1.fpOk (Nat.le_refl _) (I1.hok.fresh (Nat.le_refl _))
  rcases q with ⟨⟨xs, hq⟩, q⟩ | ⟨⟨xs, hq⟩, q⟩
  · obtain ⟨its, rv, pl, _⟩ := I1.list hq
    exact wpAny_pyIter_list pl.isList ⟨s1.heap.objs.size, [s1.heap.objs.size], _, _, H1, rfl, I1.kept (t' := s1.toks) fun b o e => Heap.get?_push_of_some _ e, turn_list a _, ⟨_, Heap.get?_push_size _ rfl, rfl, rfl⟩, fp, q⟩
  · obtain ⟨its, rv, pl, _⟩ := I1.tuple hq
    exact wpAny_pyIter_tuple (show s1.heap.IsTuple a its.toArray from pl) ⟨s1.heap.objs.size, [s1.heap.objs.size], _, _, H1, rfl, I1.kept (t' := s1.toks) fun b o e => Heap.get?_push_of_some _ e, turn_tuple a _, ⟨_, Heap.get?_push_size _ rfl, rfl, rfl⟩, fp, q⟩
theorem drop_cons {α : Type} {l : List α} {i : Nat} {a : α} (h : l[i]? = some a) : l.drop i = a :: l.drop (i + 1) := by
  obtain ⟨hi, e⟩ := List.getElem?_eq_some_iff.mp h
  rw [List.drop_eq_getElem_cons hi, e]
theorem sv_for {tg iter : Expr} {body : List Stmt} {I : DI} {ws : List Nat} {G : DG} {B : DS} (hp : PassesOwn (model X.prog X.w) X.A X.env X.xe) (hc : X.calm = true) (hi : Iv X W tg iter I) (hg : Gv X tg ws G) (hb : Bv X W body B)
    (hs : ∀ x, foldedSetIterable iter X.env x = pure x := by intro _; rfl) : Sv X W (.For tg iter body [] pos) (sFor I G B) :=
  ⟨ps_imp (ps_for hp hc hi.pi hg.pg hb.pss hs) fun D σ H ⟨δ, S, w, r, he, p⟩ => by
    refine ⟨δ, S, w, r, he, (p.bnd he).mono fun ds S1 w1 H1 e1 r1 p1 J hJ => ?_⟩
    refine ⟨fun i m σ' H' => m = ds.length - i ∧ ∃ δ' S' w', w1.Le w' ∧ Rep X.K S' w' H' ∧ EnvOk X.K w' σ' δ' ∧ PoS X.K W w' D (forD G B (ds.drop i) δ' S'), ⟨_, rfl, δ, S1, w1, Wd.Le.rfl, r1, he.le e1, p1⟩, ?_⟩
    rintro i m σ' H' ⟨rfl, δ', S', w', e', r', he', p'⟩
    obtain ⟨hgo, hst⟩ := hJ i S' w' H' e'.kn r'
    cases hd : ds[i]? with
    | none =>
      have hi : ds.length ≤ i := List.getElem?_eq_none_iff.mp hd
      rw [List.drop_of_length_le hi] at p'
      exact .inl ⟨hst hi, p' σ' w' H' Wd.Le.rfl r' he'⟩
    | some d =>
      have hi : i < ds.length := (List.getElem?_eq_some_iff.mp hd).1
      obtain ⟨g1, g2⟩ := hgo d hd
      refine .inr ⟨g1, fun σ2 H2 => ∃ δ2 S2 w2, w1.Le w2 ∧ Rep X.K S2 w2 H2 ∧ EnvOk X.K w2 σ2 δ2 ∧ PoS X.K W w2 D (forD G B (ds.drop (i + 1)) δ2 S2), fun σ2 H2 h2 => ⟨ds.length - (i + 1), by omega, rfl, h2⟩, fun x H2 y => ?_⟩
      obtain ⟨w2, e2, r2, hx⟩ := g2 x H2 y
      rw [drop_cons hd] at p'
      exact for_turn r2 (he'.le e2) hx (PoS.le (r := forD G B (d :: ds.drop (i + 1)) δ' S') e2 p') fun δ3 S3 σ3 w3 H3 e3 r3 he3 p3 => ⟨δ3, S3, w3, e'.trans (e2.trans e3), r3, he3, p3⟩⟩
theorem walk_l {K : PySem.W.Frag} {a : Addr} {xs : List V} {ds : List D} {w1 : Wd} (hq : SqL K w1.H a xs) (hx : Dats K w1 ds xs) : WalkD K (Itl K a) ds w1 := fun i S' w' H' e' r' => by
  have q := r'.sqL (sqL_le e'.h hq)
  refine ⟨fun d hd => ?_, fun hi => ⟨xs, q, by rw [hx.len]; exact hi⟩⟩
  obtain ⟨v, h1, h2⟩ := hx.get hd
  refine ⟨⟨xs, v, q, h1⟩, fun x H2 ⟨e2, y⟩ => ?_⟩
  have e3 : xs[i]? = some x := y xs q
  rw [h1] at e3
  cases e3
  rw [e2]
  exact ⟨w', Wd.Le.rfl, r', h2.kn e'⟩
theorem walk_t {K : PySem.W.Frag} {a : Addr} {xs : List V} {ds : List D} {w1 : Wd} (hq : SqT K w1.H a xs) (hx : Dats K w1 ds xs) : WalkD K (Itt K a) ds w1 := fun i S' w' H' e' r' => by
  have q := r'.sqT (sqT_le e'.h hq)
  refine ⟨fun d hd => ?_, fun hi => ⟨xs, q, by rw [hx.len]; exact hi⟩⟩
  obtain ⟨v, h1, h2⟩ := hx.get hd
  refine ⟨⟨xs, v, q, h1⟩, fun x H2 ⟨e2, y⟩ => ?_⟩
  have e3 : xs[i]? = some x := y xs q
  rw [h1] at e3
  cases e3
  rw [e2]
  exact ⟨w', Wd.Le.rfl, r', h2.kn e'⟩
def iSeq (A : DE) : DI := fun δ S => bnd (A δ S) fun d S1 => up (still d) S1
theorem iv_seq {tg l : Expr} {A : DE} (h : Ev X W l A) : Iv X W tg l (iSeq A) :=
  ⟨pi_imp (pi_both h.pe) fun σ H R ⟨δ, S, w, r, he, p⟩ => ⟨δ, S, w, r, he, p.bnd.mono fun d S1 w1 H1 e1 r1 p1 v hv => by
    obtain ⟨ds, hds, p1⟩ := p1.up r1
    obtain ⟨a, xs, e, hq, hx⟩ := still_at hv hds
    refine ⟨a, e, ?_⟩
    rcases hq with hq | hq
    · exact .inl ⟨⟨xs, r1.sqL hq⟩, p1 _ (walk_l hq hx)⟩
    · exact .inr ⟨⟨xs, r1.sqT hq⟩, p1 _ (walk_t hq hx)⟩⟩⟩
/-- over a range -/
def upto (lo : Int) (n : Nat) : List D := (List.range n).map fun (i : Nat) => D.int (lo + (i : Int))
theorem upto_at {lo : Int} {n i : Nat} (h : i < n) : (upto lo n)[i]? = some (.int (lo + (i : Int))) := by
  unfold upto
  rw [List.getElem?_map, List.getElem?_range h]
  rfl
theorem upto_len (lo : Int) (n : Nat) : (upto lo n).length = n := by
  unfold upto
  rw [List.length_map, List.length_range]
def isSmall (i : Int) : Prop := -(2 ^ 62) ≤ i ∧ i < 2 ^ 62
instance (i : Int) : Decidable (isSmall i) := inferInstanceAs (Decidable (_ ∧ _))
def rng1 : List D → Option (List D)
  | [.int j] => if isSmall j then some (upto 0 j.toNat) else none
  | _ => none
def rng2 : List D → Option (List D)
  | [.int i, .int j] => if isSmall i ∧ isSmall j then some (upto i (j - i).toNat) else none
  | _ => none
def iRg1 (A : DA) : DI := fun δ S => bnd (A δ S) fun xs S1 => up (rng1 xs) S1
def iRg2 (A : DA) : DI := fun δ S => bnd (A δ S) fun xs S1 => up (rng2 xs) S1
theorem walk_r {K : PySem.W.Frag} {lo : Int} {n : Nat} {w1 : Wd} : WalkD K (Itr lo n) (upto lo n) w1 := fun i S' w' H' e' r' => by
  refine ⟨fun d hd => ?_, fun hi => by rw [upto_len] at hi; exact hi⟩
  have hi : i < n := by
    have := (List.getElem?_eq_some_iff.mp hd).1
    rw [upto_len] at this
    exact this
  rw [upto_at hi] at hd
  cases hd
  exact ⟨hi, fun x H2 ⟨e2, y⟩ => ⟨w', Wd.Le.rfl, by rw [e2]; exact r', y⟩⟩
theorem dats1 {K : PySem.W.Frag} {w : Wd} {i : Int} {vs : List V} (h : Dats K w [.int i] vs) : vs = [.int i] := by
  obtain ⟨v, r, e, h1, h2⟩ := h
  rw [e, show v = .int i from h1, show r = [] from h2]
theorem iv_rng1 {tg a : Expr} {p : Pos} {A : DA} (hgl : Gl X "range") (hm : X.mg "range" = none) (ha : Av X W [a] A) (hse : starEach [a] X.env = [(false, eval a X.env)] := by rfl) : Iv X W tg (.Call (.Name "range" p) [a] [] pos) (iRg1 A) :=
  ⟨pi_imp (pi_range1 hgl hm ha.pa hse) fun σ H R ⟨δ, S, w, r, he, p⟩ => ⟨δ, S, w, r, he, p.bnd.mono fun xs S1 w1 H1 e1 r1 p1 vs hv => by
    obtain ⟨ds, hds, p1⟩ := p1.up r1
    match xs, hds with
    | [.int j], hds =>
      have hds' : (if isSmall j then some (upto 0 j.toNat) else none) = some ds := hds
      by_cases hj : isSmall j
      · rw [if_pos hj] at hds'
        have e : upto 0 j.toNat = ds := by simpa using hds'
        subst e
        exact ⟨j, dats1 hv, hj.1, hj.2, p1 _ walk_r⟩
      · rw [if_neg hj] at hds'
        cases hds'⟩⟩
theorem iv_rng2 {tg a b : Expr} {p : Pos} {A : DA} (hgl : Gl X "range") (hm : X.mg "range" = none) (ha : Av X W [a, b] A) (hse : starEach [a, b] X.env = [(false, eval a X.env), (false, eval b X.env)] := by rfl) (hse2 : starEach [b] X.env = [(false, eval b X.env)] := by rfl) : Iv X W tg (.Call (.Name "range" p) [a, b] [] pos) (iRg2 A) :=
  ⟨pi_imp (pi_range2 hgl hm ha.pa hse hse2) fun σ H R ⟨δ, S, w, r, he, p⟩ => ⟨δ, S, w, r, he, p.bnd.mono fun xs S1 w1 H1 e1 r1 p1 vs hv => by
    obtain ⟨ds, hds, p1⟩ := p1.up r1
    match xs, hds with
    | [.int i, .int j], hds =>
      have hds' : (if isSmall i ∧ isSmall j then some (upto i (j - i).toNat) else none) = some ds := hds
      by_cases hj : isSmall i ∧ isSmall j
      · rw [if_pos hj] at hds'
        have e : upto i (j - i).toNat = ds := by simpa using hds'
        subst e
        obtain ⟨v, rr, e3, h1, h2⟩ := hv
        exact ⟨i, j, by rw [e3, show v = .int i from h1, dats1 h2], ⟨hj.1.1, hj.1.2, hj.2.1, hj.2.2⟩, p1 _ walk_r⟩
      · rw [if_neg hj] at hds'
        cases hds'⟩⟩
/-- while, so many turns at most -/
def whileD (C : DT) (B : DS) : Nat → DS
  | 0, _, _ => none
  | n + 1, δ, S => bndS (C δ S) δ fun b S1 => if b = true then contD (B δ S1) (whileD C B n) else some (.nx δ S1)
/-- of as many turns as it takes -/
noncomputable def sWhile (C : DT) (B : DS) : DS := fun δ S => open Classical in if h : ∃ n, (whileD C B n δ S).isSome = true then whileD C B h.choose δ S else none
theorem sv_while {c : Expr} {body : List Stmt} {C : DT} {B : DS} (hp : PassesOwn (model X.prog X.w) X.A X.env X.xe) (hc : Tv X W c C) (hb : Bv X W body B) : Sv X W (.While c body [] pos) (sWhile C B) :=
  ⟨ps_imp (ps_while hp hc.pt hb.pss) fun D σ H ⟨δ, S, w, r, he, p⟩ => by
    have hn : ∃ n, PoS X.K W w D (whileD C B n δ S) := by
      unfold sWhile at p
      split at p
      · exact ⟨_, p⟩
      · exact p.elim
    obtain ⟨n, p⟩ := hn
    refine ⟨fun n σ' H' => ∃ δ' S' w', Rep X.K S' w' H' ∧ EnvOk X.K w' σ' δ' ∧ PoS X.K W w' D (whileD C B n δ' S'), ⟨n, δ, S, w, r, he, p⟩, ?_⟩
    rintro m σ' H' ⟨δ', S', w', r', he', p'⟩
    cases m with
    | zero => exact p'.elim
    | succ m =>
      refine ⟨δ', S', w', r', he', (p'.bnd he').mono fun b S1 w1 H1 e1 r1 p1 => ?_⟩
      cases b with
      | false => exact iteF (p1 σ' w1 H1 Wd.Le.rfl r1 (he'.le e1))
      | true =>
        refine iteT ⟨fun σ' H' => ∃ δ' S' w', Rep X.K S' w' H' ∧ EnvOk X.K w' σ' δ' ∧ PoS X.K W w' D (whileD C B m δ' S'), fun σ2 H2 h => ⟨m, Nat.lt_succ_self _, h⟩, δ', S1, w1, r1, he'.le e1, ?_⟩
        have p2 : PoS X.K W w1 D (contD (B δ' S1) (whileD C B m)) := p1
        cases q2 : B δ' S1 with
        | none => rw [q2] at p2; exact p2.elim
        | some o =>
          rw [q2] at p2
          cases o with
          | nx δ2 S2 => exact fun σ3 w3 H3 e3 r3 he3 => ⟨δ2, S2, w3, r3, he3, PoS.le (r := whileD C B m δ2 S2) e3 p2⟩
          | ct δ2 S2 => exact fun σ3 w3 H3 e3 r3 he3 => ⟨δ2, S2, w3, r3, he3, PoS.le (r := whileD C B m δ2 S2) e3 p2⟩
          | brk δ2 S2 => exact p2
          | ret d S1 => exact p2
          | exc x δ1 S1 => exact p2⟩
end
end Cw

set_option maxRecDepth 100000
set_option maxHeartbeats 2000000
set_option linter.all false
/-! Defs: what they come to by plain data; calls; the law's own call. (As the layer's FnOk, with one more word: nothing is being told of an object around.) -/
namespace Cw
open PySem PySem.Spec PyProof.Rows L2

/-- what a def comes to -/
abbrev Fn := List D → Sto → Option (Out D)
def PoF (K : PySem.W.Frag) (w : Wd) (r : Option (Out D)) (Q : VK) (E : XK) : Prop := match r with
  | none => False
  | some (.ok d S') => ∀ v w' H', w.Le w' → Rep K S' w' H' → Dat K w' d v → Q v H'
  | some (.exc x S') => ∀ c od w' H', w.Le w' → Rep K S' w' H' → ExcAt K w' x c od → E c od H'
def spD (K : PySem.W.Frag) (n : Nat) (F : Fn) : Sp := fun vs H Q E => ∃ ds S w, ds.length = n ∧ Rep K S w H ∧ Dats K w ds vs ∧ PoF K w (F ds S) Q E

structure GnOk (P : Program) (w : World) (K : PySem.W.Frag) (mg : Str → Option Value) (base : Heap) (k : Nat) (f : Addr) (fd : FuncData) (ps : List Str) (F : Fn) : Prop where
  run : ∀ (B : Around) (outer : List PySem.Env) (st : Shared) (G : Hp) (args : Args) (us : List Value) (vs : List V) (Q : VK) (E : XK), Room k B → B.guards = some [] → Env0 P w K mg base B outer st G → BindsTo st fd args (ps.zip us) → Vals vs us →
    spD K ps.length F vs G Q E → codeAny (model P w) B (.call (.ref f) args) (CR (L2.CX P w) outer P w G st Q E) st
theorem GnOk.mono {P : Program} {w : World} {K : PySem.W.Frag} {mg : Str → Option Value} {base : Heap} {j k : Nat} {f : Addr} {fd : FuncData} {ps : List Str} {F : Fn} (g : GnOk P w K mg base j f fd ps F) (h : j ≤ k) : GnOk P w K mg base k f fd ps F :=
  ⟨fun B outer st G args us vs Q E hr => g.run B outer st G args us vs Q E (hr.mono h)⟩

/-- one outcome in the place of another: what is owned anew may be forgotten -/
def Cl (K : PySem.W.Frag) (S : Sto) (r r' : Option (Out D)) : Prop := ∀ w Q E H, Rep K S w H → PoF K w r' Q E → PoF K w r Q E
theorem GnOk.imp {P : Program} {w : World} {K : PySem.W.Frag} {mg : Str → Option Value} {base : Heap} {k : Nat} {f : Addr} {fd : FuncData} {ps : List Str} {F F' : Fn} (g : GnOk P w K mg base k f fd ps F)
    (h : ∀ ds S r, ds.length = ps.length → F' ds S = some r → Cl K S (F ds S) (some r)) : GnOk P w K mg base k f fd ps F' :=
  ⟨fun B outer st G args us vs Q E hr hg e hb hv ⟨ds, S, w', hl, r, hd, p⟩ => g.run B outer st G args us vs Q E hr hg e hb hv ⟨ds, S, w', hl, r, hd, by
    cases q : F' ds S with
    | none => rw [q] at p; exact p.elim
    | some o =>
      rw [q] at p
      exact h ds S o hl q w' Q E G r p⟩⟩

section
variable {P : Program} {w : World} {K : PySem.W.Frag} {mg : Str → Option Value} {base : Heap}
/-- a body's end as the def's -/
def body (n : Nat) (A : DS) : Fn := fun ds S => match A (ds.map some ++ List.replicate (n - ds.length) none) S with
  | some (.nx _ S') => some (.ok .non S')
  | some (.ret d S') => some (.ok d S')
  | some (.exc x _ S') => some (.exc x S')
  | _ => none
theorem start_env {w : Wd} {N : List Str} {ds : List D} {vs : List V} (h : Dats K w ds vs) : EnvOk K w (L2.start N vs) (ds.map some ++ List.replicate (N.length - ds.length) none) := by
  refine ⟨by simp [L2.start, h.len], fun i d e => ?_⟩
  unfold L2.start
  by_cases hi : i < ds.length
  · rw [List.getElem?_append_left (by simpa using hi), List.getElem?_map] at e
    cases q : ds[i]? with
    | none => rw [q] at e; cases e
    | some d' =>
      rw [q] at e
      have e' : d' = d := by simpa using e
      subst e'
      obtain ⟨v, h1, h2⟩ := h.get q
      refine ⟨v, ?_, h2⟩
      rw [List.getElem?_append_left (by rw [List.length_map, h.len]; exact hi), List.getElem?_map, h1]
      rfl
  · rw [List.getElem?_append_right (by simpa using hi), List.getElem?_replicate] at e
    split at e <;> cases e
/-- THE RULE for a def: its body's rules, for every place where it may run -/
theorem gn_of {x qual : Str} {params : Arguments} {bd : List Stmt} {scope : Scope} {dvs : List V} {kws : List (Str × V)} {f : Addr} {fd : FuncData} {N ps : List Str} {k : Nat} {A : DS} (F : FunD K x qual params bd scope dvs kws f fd) (Z : FnScope N ps scope)
    (hbody : ∀ (cdv : Value) (B : Around) (outer : List PySem.Env) (st : Shared) (G : Hp) (E : XK), B.guards = some [] → Room k (B.deeper (envOfC qual scope st.heap.objs.size f cdv)) →
      Bv (cxOf (L2.CX P w) P w K mg base N qual scope f cdv B outer st G E) (fun c d _ H => E c d H) bd A) : GnOk P w K mg base (k + 1) f fd ps (body N.length A) := by
  obtain ⟨oc, od, dV, kV, doc, pm, an, cdv, ct, osl, rfl, lk, hcd, _, _⟩ := F.ex
  refine ⟨fun B outer st G args us vs Q E hr hg e0 hb rv ⟨ds, S, wd, hlen, rep, hds, po⟩ => ?_⟩
  have vlen : vs.length = ps.length := hds.len.trans hlen
  have kin : K.In st.heap := e0.mod.kin.keeps fun b o e => (e0.bs b o e).1
  have nolim : st.heap.NoLimit := e0.mod.nolimit.keeps fun b o e => (e0.bs b o e).1
  have kinds : ∀ y ∈ ps.zip us, scope.names.lookup y.1 = some .local ∨ (scope.names.lookup y.1 = some .cell ∧ ((cellsFrom (st.heap.objs.size + 1) scope.names []).lookup y.1).isSome = true) := fun y hy =>
    (Z.par y.1 (List.of_mem_zip (a := y.1) (b := y.2) hy).1).imp id fun q => ⟨q, PySem.W.cellsFrom_some _ _ _ (.inl q)⟩
  refine codeAny_call_function hr.depth (kin _ _ lk) rfl Z.co Z.gen rfl (PySem.W.codeRec_of kin hcd) (hb _ _ _ _ ?_)
  refine wpAny_newFunctionEnv_cells Z.kind kinds fun env he s1 ic => ?_
  subst he
  refine ⟨nolim.keeps ic.toInCall.keep, codeAny_func ?_⟩
  have bv := hbody cdv B outer st G E hg (hr.deeper _)
  have inv : Inv (cxOf (L2.CX P w) P w K mg base N qual scope f cdv B outer st G E) [] (L2.start N vs) G s1 := inv_start Z hr.hd e0 vlen rv ic
  have hA : PoS K (fun c d _ H => E c d H) wd { nx := fun _ H' => Q .non H', rt := Q } (A (ds.map some ++ List.replicate (N.length - ds.length) none) S) := by
    unfold body at po
    cases q : A (ds.map some ++ List.replicate (N.length - ds.length) none) S with
    | none => rw [q] at po; exact po.elim
    | some o =>
      rw [q] at po
      cases o with
      | nx δ S' => exact fun σ' w' H' e r _ => po .non w' H' e r rfl
      | ret d S' => exact po
      | brk δ S' => exact po.elim
      | ct δ S' => exact po.elim
      | exc x δ S' => exact fun c od σ' w' H' e r _ hx => po c od w' H' e r hx
  refine wpAny_mono (bv.pss.run [] s1 (L2.start N vs) G _ inv ⟨_, S, wd, rep, start_env hds, hA⟩) (fun fl s' h => ?_) fun e s' h => h
  have fin : ∀ {σ' : L2.St} {H' : Hp} {v : V} {u : Value}, Inv (cxOf (L2.CX P w) P w K mg base N qual scope f cdv B outer st G E) [] σ' H' s' → RelV v u → Q v H' → CE outer P w G st Q u s' := fun {_ H' v _} J rv' q => ⟨v, H', J.os, J.bare, J.base, J.hok, rv', q⟩
  cases fl with
  | ret u =>
    obtain ⟨v, σ', H', J, rv', q⟩ := h
    exact fin J rv' q
  | next =>
    obtain ⟨σ', H', J, q⟩ := h
    exact fin (v := V.non) (u := Value.none) J rfl q
  | brk =>
    obtain ⟨_, _, _, q⟩ := h
    exact q.elim
  | cont =>
    obtain ⟨_, _, _, q⟩ := h
    exact q.elim
end

/-! ### calls -/
section
variable {X : Cx} {W : WX} {pos : Pos} {k : Nat} {f : Addr} {fd : FuncData} {ps : List Str} {F : Fn} {ds0 : List D} {dvs : List V} {us0 : List Value} {x : Str} {p : Pos} {e : Expr} {es : List Expr} {A : DA}
/-- what lies ready for calls in a body -/
structure Rdy (X : Cx) (W : WX) (k : Nat) : Prop where
  tk : Takes X W
  gd : X.A.guards = some []
  rm : Room k X.A
theorem run_g {pins : List (Addr × Obj)} {σ : L2.St} {H : Hp} {s : Shared} {Q : VK} {args : Args} {us : List Value} {vs : List V} {R : D → Sto → Wd → Hp → Prop} (g : GnOk X.prog X.w X.K X.mg X.base k f fd ps F) (hr : Rdy X W k) (I : Inv X pins σ H s) (hb : BindsTo s fd args (ps.zip us)) (hv : Vals vs us)
    {ds : List D} {S : Sto} {w : Wd} (hl : ds.length = ps.length) (r : Rep X.K S w H) (hd : Dats X.K w ds vs) (po : Po X.K W σ w (F ds S) (Got X.K Q)) :
    codeAny (model X.prog X.w) X.A (.call (.ref f) args) (fun r s' => match r with | .ok (.ret u) => EP X pins σ Q u s' | .ok _ => False | .error e => X.xe e s') s := by
  have po' : PoF X.K w (F ds S) Q (fun c d H => W c d σ H) := by
    cases q : F ds S with
    | none => rw [q] at po; exact po.elim
    | some o =>
      rw [q] at po
      cases o with
      | ok d S' => exact fun v w' H' e r hv => po w' H' e r v hv
      | exc x S' => exact po
  refine codeAny_mono (g.run X.A X.stack s H args us vs Q (fun c d H => W c d σ H) hr.rm hr.gd I.env0 hb hv ⟨ds, S, w, hl, r, hd, po'⟩) fun rr s' hq => ?_
  cases rr with
  | error e => exact hr.tk e s' (XE.of_call I (fun _ _ _ h => h) hq)
  | ok fl =>
    cases fl with
    | ret u => exact I.after hq
    | next => exact False.elim hq
    | brk => exact False.elim hq
    | cont => exact False.elim hq
/-- what a call with these written values comes to: defaults behind -/
def dCall (F : Fn) (n : Nat) (ds0 : List D) (A : DA) : DE := fun δ S => bnd (A δ S) fun xs S1 => if (xs ++ ds0).length = n then F (xs ++ ds0) S1 else none
theorem ev_call (g : GnOk X.prog X.w X.K X.mg X.base k f fd ps F) (hr : Rdy X W k) (hg : Gl X x) (hm : X.mg x = some (.ref f)) (hk : PySem.W.keepIn X.K (.ref f) = true) (hb : Binds X.K fd ps us0) (hd : Vals dvs us0) (hd0 : ∀ w, Dats X.K w ds0 dvs)
    (ha : Av X W (e :: es) A) (hdb : (x == ("__debug__" : Str)) = false := by decide) (he : starEach (e :: es) X.env = (false, eval e X.env) :: starEach es X.env := by rfl) (hpl : (backTo pos (starEach es X.env)).any (·.1) = false := by rfl) :
    Ev X W (.Call (.Name x p) (e :: es) [] pos) (dCall F ps.length ds0 A) := ⟨⟨fun pins s σ H Q I ⟨δ, S, w, r, he', q⟩ => by
  refine wpAny_Call_Name_kw (ld_glob I hg hm ?_ hdb)
  refine PySem.W.callWith_K (h₀ := X.base) I.ok.mod.kin hk (thn (ha.pa.run pos pins s σ H (fun vs H1 => ∃ xs S1 w1, Rep X.K S1 w1 H1 ∧ Dats X.K w1 xs vs ∧ Po X.K W σ w1 (if (xs ++ ds0).length = ps.length then F (xs ++ ds0) S1 else none) (Got X.K Q)) I
    ⟨δ, S, w, r, he', q.bnd.mono fun xs S1 w1 H1 e1 r1 p1 vs hvs => ⟨xs, S1, w1, r1, hvs, p1⟩⟩) fun us s1 ⟨vs, H1, I1, rv, xs, S1, w1, r1, hvs, p1⟩ => ⟨I1.kIn, ?_⟩) he hpl
  by_cases hl : (xs ++ ds0).length = ps.length
  · rw [if_pos hl] at p1
    have rv2 : Vals (vs ++ dvs) (us ++ us0) := rv.append hd
    have hd2 : Dats X.K w1 (xs ++ ds0) (vs ++ dvs) := hvs.append (hd0 w1)
    have hl2 : (us ++ us0).length = ps.length := by rw [← rv2.length, hd2.len]; exact hl
    refine wpAny_call (codeAny_mono (run_g (R := Got X.K Q) g hr I1 (hb s1 us I1.kIn hl2) rv2 hl r1 hd2 p1) fun rr s' hq => ?_)
    cases rr with
    | error e => exact hq
    | ok fl =>
      cases fl with
      | ret u => exact hq
      | _ => exact False.elim hq
  · rw [if_neg hl] at p1
    exact p1.elim⟩⟩
end

/-! ### the law's own call -/
/-- the world that knows a script -/
theorem law_g {P : Program} {w : World} {K : PySem.W.Frag} {mg mb : Str → Option Value} {k : Nat} {fa a : Addr} {fd : FuncData} {x : Str} {F : Fn} {s1 : Shared} {vs : List Value} {ns : List Int}
    (kin : K.In s1.heap) (hns : s1.heap.Ns mainGlobals mg) (hb : s1.heap.Ns builtinsNs mb) (hbb : ∀ x : Str, x ≠ "__name__" → mb x = bootBuiltins x) (lim : s1.heap.NoLimit) (gen : s1.gens = #[])
    (ha : s1.heap.get? a = some { cls := .type "list", data := .seq vs.toArray }) (hi : IntsAre vs ns) (hl : ns.length ≤ sizeLine) (hr : Room k callerA)
    (g : ∀ base : Heap, K.In base → base.Ns mainGlobals mg → GnOk P w K mg base k fa fd [x] F) (hbind : ∀ (s : Shared) (u : Value), BindsTo s fd ⟨[u], []⟩ [(x, u)])
    (hF : ∃ S', F [.scr (ns.map D.int)] [] = some (.ok (.bl true) S')) :
    codeAny (model P w) callerA (.call (.ref fa) ⟨[.ref a], []⟩) (fun r s' => r = .ok (.ret (.bool true)) ∧ OldK s1.heap s'.heap ∧ s'.os = s1.os ∧ AllBare s'.gens) s1 := by
  have core : ∀ G : Hp, (G = (fun _ => none) ∨ (G = upd (fun _ => none) a (.frz { cls := .type "list", data := .seq vs.toArray } (.lst (ns.map V.int))) ∧ K.lookup a = none)) → SqL K G a (ns.map V.int) → HOk P w G s1.heap →
      codeAny (model P w) callerA (.call (.ref fa) ⟨[.ref a], []⟩) (fun r s' => r = .ok (.ret (.bool true)) ∧ OldK s1.heap s'.heap ∧ s'.os = s1.os ∧ AllBare s'.gens) s1 := by
    intro G hG sq hok
    have cases_ : ∀ b o, G b = some o → b = a ∧ K.lookup a = none ∧ o = .frz { cls := .type "list", data := .seq vs.toArray } (.lst (ns.map V.int)) := fun b o e => by
      rcases hG with z | ⟨z, kz⟩
      · rw [z] at e; cases e
      · rw [z] at e
        by_cases hb : b = a
        · subst hb
          rw [upd_same] at e
          exact ⟨rfl, kz, (Option.some.inj e).symm⟩
        · rw [upd_ne hb] at e
          cases e
    have keep : ∀ {b : Addr} {o : Obj}, s1.heap.get? b = some o → G b = none → (hidT s1.heap G).get? b = some o := fun e n => hidT_get e n
    have dictFree : ∀ {b : Addr} {o : Obj} {es : Array DictEntry} {ep : Nat}, s1.heap.get? b = some o → o.data = .dict es ep → G b = none := fun {b o es ep} e dd => by
      cases q : G b with
      | none => rfl
      | some u =>
        obtain ⟨hb, _, _⟩ := cases_ b u q
        rw [hb, ha] at e
        cases e
        cases dd
    have nsK : ∀ {b : Addr} {m : Str → Option Value}, s1.heap.Ns b m → (hidT s1.heap G).Ns b m := fun {b m} ⟨o, es, ep, e, dd, r⟩ => ⟨o, es, ep, keep e (dictFree e dd), dd, r⟩
    have kinb : K.In (hidT s1.heap G) := fun b o e => keep (kin b o e) (by
      cases q : G b with
      | none => rfl
      | some u =>
        obtain ⟨hb, kz, _⟩ := cases_ b u q
        rw [hb, kz] at e
        cases e)
    have md : Mod K mg (hidT s1.heap G) := ⟨kinb, nsK hns, ⟨mb, nsK hb, hbb⟩, lim.elim fun mc h => ⟨mc, nsK h.1, h.2⟩⟩
    have e0 : Env0 P w K mg (hidT s1.heap G) callerA [] s1 G := ⟨rfl, md, fun b o e => of_hidT e, Nat.le_of_eq (hidT_size _ _), trivial, fun b hb => (nomatch (show b ∈ ([] : List Addr) from hb)), hok, .of_eq gen⟩
    let wd : Wd := ⟨G, fun _ => 0, 0, fun _ => none⟩
    have rep : Rep K [] wd G := ⟨fun _ _ e => e, rfl, fun k o e => by simp at e, fun j k h => absurd h (Nat.not_lt_zero _), fun b o e => by cases e⟩
    have dint : ∀ l : List Int, Dats K wd (l.map D.int) (l.map V.int) := fun l => by
      induction l with
      | nil => exact Dats.nil
      | cons i l ih => exact Dats.cons (d := .int i) rfl ih
    have dat : Dats K wd [.scr (ns.map D.int)] [.ref a] := Dats.cons (d := .scr (ns.map D.int)) ⟨a, ns.map V.int, rfl, sq, dint ns⟩ Dats.nil
    refine codeAny_mono ((g _ kinb (nsK hns)).run callerA [] s1 G ⟨[.ref a], []⟩ [.ref a] [.ref a] (fun v H' => v = .bl true) (fun _ _ _ => False) hr rfl e0 (hbind s1 (.ref a)) (.cons rfl .nil) ⟨_, [], wd, rfl, rep, dat, ?_⟩) fun r s' h => ?_
    · obtain ⟨S', hF⟩ := hF
      rw [hF]
      exact fun v w' H' e r hv => hv
    · cases r with
      | error e =>
        obtain ⟨_, _, _, _, _, _, _, _, _, _, _, _, z⟩ := (show L2.CX P w [] G s1 (fun _ _ _ => False) e s' from h)
        exact z.elim
      | ok fl =>
        cases fl with
        | next => exact False.elim h
        | brk => exact False.elim h
        | cont => exact False.elim h
        | ret u =>
          obtain ⟨v, H', os, bare, un, hok', r', q⟩ := (show CE [] P w G s1 (fun v H' => v = .bl true) u s' from h)
          subst q
          obtain rfl : u = Value.bool true := r'
          refine ⟨rfl, OldK.of_keep fun b o e => ?_, os, bare⟩
          cases q : G b with
          | none => exact un.keep b o e q (fun z => nomatch (show b ∈ ([] : List Addr) from z)) (fun z => nomatch (show b ∈ ([] : List Addr) from z))
          | some u =>
            obtain ⟨_, _, rfl⟩ := cases_ b u q
            obtain ⟨e1, _⟩ := hok b _ q
            obtain ⟨e2, _⟩ := hok' b _ (un.frzs b _ _ q)
            rw [e] at e1
            cases e1
            exact e2
  have lenV := hi.length
  cases hk : K.lookup a with
  | some o =>
    have e := kin a o hk
    rw [ha] at e
    cases e
    exact core (fun _ => none) (.inl rfl) (.inr ⟨_, vs.toArray, _, hk, rfl, rfl, rfl, by rw [List.size_toArray, lenV]; exact hl, by simpa using vals_ints hi⟩) fun b u z => nomatch (show (none : Option HO) = some u from z)
  | none =>
    refine core (upd (fun _ => none) a (.frz { cls := .type "list", data := .seq vs.toArray } (.lst (ns.map V.int)))) (.inr ⟨rfl, hk⟩) (.inl (.inr ⟨_, upd_same⟩)) fun b u z => ?_
    by_cases hb : b = a
    · subst hb
      rw [upd_same] at z
      cases z
      exact ⟨ha, by rw [List.length_map]; exact hl, vs, _, vals_ints hi, ha⟩
    · rw [upd_ne hb] at z
      cases z
/-- the end of a law -/
theorem walk_g {l : PySem.W.OpenLaw} {n k : Nat} {q : Program} {loose : List Str} {XP : (Str → Option Value) → Heap → Prop} {YP : World → Heap → Prop} {d : DefRec} {x : Str} {F : Fn}
    (hn : l.most = some n) (hn2 : n ≤ sizeLine) (hdf : d.params.defaults = []) (hr : Room k callerA)
    (h : ∀ (w : World) (mg : Str → Option Value) (fa : Addr) (h : Heap), YP w h → h.Ns mainGlobals mg → mg d.name = some (.ref fa) →
      ∃ (K : PySem.W.Frag) (fd : FuncData), K.In h ∧ (∀ (s : Shared) (u : Value), BindsTo s fd ⟨[u], []⟩ [(x, u)]) ∧ ∀ base : Heap, K.In base → base.Ns mainGlobals mg → GnOk l.prog w K mg base k fa fd [x] F)
    (hF : ∀ ns : List Int, ns.length ≤ n → ∃ S', F [.scr (ns.map D.int)] [] = some (.ok (.bl true) S')) :
    PySem.W.WalkO q loose XP YP l.row.toRowW d [] (fun f vs => PySem.call f vs) := by
  refine Att.attach_call hn hdf fun w s0 s1 mg mb fa o pm cd doc a vs ns G Y ho hd hcd hmg hobj hints hlen hg => ?_
  obtain ⟨K, fd, kin, hb, g⟩ := h w mg fa _ Y G.T.g hmg
  exact law_g kin G.T.g G.T.b G.T.builtins G.T.nolimit hg hobj hints (Nat.le_trans hlen hn2) hr g hb (hF ns hlen)
end Cw

set_option maxRecDepth 100000
set_option maxHeartbeats 2000000
set_option linter.all false
/-! Operations upon plain data. -/
namespace Cw
open PySem PySem.Spec PyProof.Rows L2

section
variable {K : PySem.W.Frag} {S : Sto} {w : Wd} {H : Hp}
/-- what a list holds, be it owned or nobody's -/
def lstOf (S : Sto) : D → Option (List D)
  | .lst ds => some ds
  | .ref n => match S[n]? with
    | some (.lst ds) => some ds
    | _ => none
  | _ => none
theorem lstOf_at {d : D} {v : V} {ds : List D} (r : Rep K S w H) (hv : Dat K w d v) (h : lstOf S d = some ds) : ∃ p xs, v = .ref p ∧ H p = some (.lst xs) ∧ Dats K w ds xs := by
  cases d with
  | lst es =>
    obtain ⟨p, xs, e, h1, h2⟩ := hv
    have e' : es = ds := by simpa [lstOf] using h
    subst e'
    exact ⟨p, xs, e, r.sub _ _ h1, h2⟩
  | ref n =>
    obtain ⟨e, hn⟩ := hv
    have h0 : (match S[n]? with | some (.lst ds) => some ds | _ => none) = some ds := h
    cases q : S[n]? with
    | none => rw [q] at h0; cases h0
    | some o =>
      rw [q] at h0
      obtain ⟨_, h2⟩ := r.obs n o q
      cases o with
      | lst es =>
        have e' : es = ds := by simpa using h0
        subst e'
        obtain ⟨xs, h3, h4⟩ := h2
        exact ⟨_, xs, e, h3, h4⟩
      | _ => cases h0
  | _ => cases h
theorem new_lst' {p : Addr} {ds : List D} {xs : List V} (r : Rep K S w H) (hp : H p = none) (h : Dats K w ds xs) {Q : VK} (q : ∀ w' H' z, w.Le w' → Rep K S w' H' → Dat K w' (.lst ds) z → Q z H') : Q (.ref p) (upd H p (.lst xs)) := by
  obtain ⟨h1, h2, h3⟩ := new_lst r hp h
  exact q _ _ _ h1 h2 h3
theorem new_tup' {p : Addr} {ds : List D} {xs : List V} (r : Rep K S w H) (hp : H p = none) (h : Dats K w ds xs) {Q : VK} (q : ∀ w' H' z, w.Le w' → Rep K S w' H' → Dat K w' (.tup ds) z → Q z H') : Q (.ref p) (upd H p (.tup xs)) := by
  obtain ⟨h1, h2, h3⟩ := new_tup r hp h
  exact q _ _ _ h1 h2 h3
theorem dats_nil_iff {ds : List D} {xs : List V} (h : Dats K w ds xs) : ds = [] ↔ xs = [] := by
  cases ds with
  | nil => exact ⟨fun _ => h, fun _ => rfl⟩
  | cons d ds =>
    obtain ⟨v, vs, e, _, _⟩ := h
    subst e
    exact ⟨fun q => (nomatch q), fun q => (nomatch q)⟩
end

/-! ### + - * // % ** -/
def addV (x y : D) (S : Sto) : Option (D × Sto) := match x, y with
  | .int i, .int j => some (.int (i + j), S)
  | .str a, .str b => if a.length + b.length ≤ big then some (.str (a ++ b), S) else none
  | .tup a, .tup b => if a.length + b.length ≤ big then some (.tup (a ++ b), S) else none
  | x, y => match lstOf S x, lstOf S y with
    | some a, some b => if a.length + b.length ≤ big then some (.lst (a ++ b), S) else none
    | _, _ => none
def rAddV (K : PySem.W.Frag) : R2 := fun x y H Q => rI0 (fun i j => .int (i + j)) x y H Q ∨ (∃ i j, x = .str i ∧ y = .str j ∧ i.length + j.length ≤ sizeLine ∧ Q (.str (i ++ j)) H) ∨ rCatA K x y H Q ∨ rCat x y H Q
theorem op_addV {X : Cx} : OpR X (binaryOp .Add) (rAddV X.K) := op_add.or (op_add_str.or (op_catA.or op_cat))
theorem some_if {c : Prop} [Decidable c] {α : Type} {a b : α} (h : (if c then some a else none) = some b) : c ∧ a = b := by
  by_cases hc : c
  · rw [if_pos hc] at h
    exact ⟨hc, by simpa using h⟩
  · rw [if_neg hc] at h
    cases h
theorem cat_lst {K : PySem.W.Frag} {x y d : D} {S S' : Sto} {w : Wd} {H : Hp} {u v : V} {Q : VK} (h : (match lstOf S x, lstOf S y with
    | some a, some b => if a.length + b.length ≤ big then some (D.lst (a ++ b), S) else none
    | _, _ => none) = some (d, S')) (r : Rep K S w H) (hx : Dat K w x u) (hy : Dat K w y v) (q : ∀ w' H' z, w.Le w' → Rep K S' w' H' → Dat K w' d z → Q z H') : rCat u v H Q := by
  cases ha : lstOf S x with
  | none => rw [ha] at h; cases h
  | some a =>
    cases hb : lstOf S y with
    | none => rw [ha, hb] at h; cases h
    | some b =>
      rw [ha, hb] at h
      obtain ⟨hl, e⟩ := some_if (show (if a.length + b.length ≤ big then some (D.lst (a ++ b), S) else none) = some (d, S') from h)
      cases e
      obtain ⟨p, xs, e1, h1, h2⟩ := lstOf_at r hx ha
      obtain ⟨p2, ys, e3, h3, h4⟩ := lstOf_at r hy hb
      exact ⟨p, p2, xs, ys, e1, e3, h1, h3, big_line (by rw [h2.len, h4.len]; exact hl), fun z hz => new_lst' r hz (h2.append h4) q⟩
theorem opd_add {K : PySem.W.Frag} : OpD K (rAddV K) addV := fun x y d S S' w H u v Q h r hx hy q => by
  unfold addV at h
  split at h
  · cases h
    exact .inl ⟨_, _, hx, hy, q w H _ Wd.Le.rfl r rfl⟩
  · obtain ⟨hl, e⟩ := some_if h
    cases e
    exact .inr (.inl ⟨_, _, hx, hy, big_line hl, q w H _ Wd.Le.rfl r rfl⟩)
  · rename_i a b
    obtain ⟨hl, e⟩ := some_if h
    cases e
    obtain ⟨p, xs, e1, h1, h2⟩ := hx
    obtain ⟨p2, ys, e3, h3, h4⟩ := hy
    subst e1 e3
    refine .inr (.inr (.inl ⟨p, p2, xs, ys, rfl, rfl, r.sqT h1, r.sqT h3, big_line (by rw [h2.len, h4.len]; exact hl), fun z => ?_, fun _ z => ?_, fun _ _ z hz => new_tup' r hz (h2.append h4) q⟩))
    · have ea := (dats_nil_iff h2).mpr z
      subst ea
      exact q w H _ Wd.Le.rfl r ⟨p2, ys, rfl, h3, h4⟩
    · have eb := (dats_nil_iff h4).mpr z
      subst eb
      rw [List.append_nil] at q
      exact q w H _ Wd.Le.rfl r ⟨p, xs, rfl, h1, h2⟩
  · exact .inr (.inr (.inr (cat_lst h r hx hy q)))
def subV (x y : D) (S : Sto) : Option (D × Sto) := match x, y with
  | .int i, .int j => some (.int (i - j), S)
  | _, _ => none
theorem opd_sub {K : PySem.W.Frag} : OpD K (rI0 fun i j => .int (i - j)) subV := fun x y d S S' w H u v Q h r hx hy q => by
  unfold subV at h
  split at h
  · cases h
    exact ⟨_, _, hx, hy, q w H _ Wd.Le.rfl r rfl⟩
  · cases h
def midI (i : Int) : Prop := -(2 ^ 64) < i ∧ i < 2 ^ 64
instance (i : Int) : Decidable (midI i) := inferInstanceAs (Decidable (_ ∧ _))
def mulV (x y : D) (S : Sto) : Option (D × Sto) := match x, y with
  | .int i, .int j => if midI i ∨ midI j then some (.int (i * j), S) else none
  | x, .int k => match lstOf S x with
    | some a => if isSmall k ∧ a.length * k.toNat ≤ big then some (.lst (List.replicate k.toNat a).flatten, S) else none
    | none => none
  | _, _ => none
def rMulV : R2 := fun x y H Q => rI CMul (fun i j => .int (i * j)) x y H Q ∨ rRep x y H Q
theorem op_mulV {X : Cx} : OpR X (binaryOp .Mult) rMulV := op_mul.or op_rep
theorem Dats.rep {K : PySem.W.Frag} {w : Wd} {ds : List D} {vs : List V} (h : Dats K w ds vs) : ∀ n : Nat, Dats K w (List.replicate n ds).flatten (List.replicate n vs).flatten
  | 0 => by
    rw [List.replicate_zero, List.replicate_zero]
    exact Dats.nil
  | n + 1 => by
    rw [List.replicate_succ, List.replicate_succ, List.flatten_cons, List.flatten_cons]
    exact h.append (Dats.rep h n)
theorem opd_mul {K : PySem.W.Frag} : OpD K rMulV mulV := fun x y d S S' w H u v Q h r hx hy q => by
  unfold mulV at h
  split at h
  · obtain ⟨hl, e⟩ := some_if h
    cases e
    exact .inl ⟨_, _, hx, hy, hl, q w H _ Wd.Le.rfl r rfl⟩
  · rename_i k _
    cases ha : lstOf S x with
    | none => rw [ha] at h; cases h
    | some a =>
      rw [ha] at h
      obtain ⟨hl, e⟩ := some_if (show (if isSmall k ∧ a.length * k.toNat ≤ big then some (D.lst (List.replicate k.toNat a).flatten, S) else none) = some (d, S') from h)
      cases e
      obtain ⟨p, xs, e1, h1, h2⟩ := lstOf_at r hx ha
      have h5 := hl.1.1
      have h6 := hl.1.2
      exact .inr ⟨p, k, xs, e1, hy, h1, by omega, by omega, big_line (by rw [h2.len]; exact hl.2), fun z hz => new_lst' r hz (h2.rep _) q⟩
  · cases h
def divV (x y : D) (S : Sto) : Option (D × Sto) := match x, y with
  | .int i, .int j => if 0 < j ∧ j < 1073741824 then some (.int (i / j), S) else none
  | _, _ => none
theorem opd_div {K : PySem.W.Frag} : OpD K (rI CDiv fun i j => .int (i / j)) divV := fun x y d S S' w H u v Q h r hx hy q => by
  unfold divV at h
  split at h
  · obtain ⟨hl, e⟩ := some_if h
    cases e
    exact ⟨_, _, hx, hy, hl, q w H _ Wd.Le.rfl r rfl⟩
  · cases h
def modV (x y : D) (S : Sto) : Option (D × Sto) := match x, y with
  | .int i, .int j => if 0 < j then some (.int (i % j), S) else none
  | _, _ => none
theorem opd_mod {K : PySem.W.Frag} : OpD K (rI (fun _ j => 0 < j) fun i j => .int (i % j)) modV := fun x y d S S' w H u v Q h r hx hy q => by
  unfold modV at h
  split at h
  · obtain ⟨hl, e⟩ := some_if h
    cases e
    exact ⟨_, _, hx, hy, hl, q w H _ Wd.Le.rfl r rfl⟩
  · cases h
def powV (x y : D) (S : Sto) : Option (D × Sto) := match x, y with
  | .int i, .int j => if 0 ≤ j ∧ j ≤ 1000000 ∧ i.natAbs < 2 ^ 64 then some (.int (i ^ j.toNat), S) else none
  | _, _ => none
theorem opd_pow {K : PySem.W.Frag} : OpD K (rI CPow fun i j => .int (i ^ j.toNat)) powV := fun x y d S S' w H u v Q h r hx hy q => by
  unfold powV at h
  split at h
  · obtain ⟨hl, e⟩ := some_if h
    cases e
    exact ⟨_, _, hx, hy, hl, q w H _ Wd.Le.rfl r rfl⟩
  · cases h
section
variable {X : Cx} {W : WX} {pos : Pos} {a b : Expr} {A B : DE}
theorem ev_add (ha : Ev X W a A) (hb : Ev X W b B) : Ev X W (.BinOp a .Add b pos) (dOp addV A B) := ev_op op_addV opd_add ha hb
theorem ev_sub (ha : Ev X W a A) (hb : Ev X W b B) : Ev X W (.BinOp a .Sub b pos) (dOp subV A B) := ev_op op_sub opd_sub ha hb
theorem ev_mul (ha : Ev X W a A) (hb : Ev X W b B) : Ev X W (.BinOp a .Mult b pos) (dOp mulV A B) := ev_op op_mulV opd_mul ha hb
theorem ev_div (ha : Ev X W a A) (hb : Ev X W b B) : Ev X W (.BinOp a .FloorDiv b pos) (dOp divV A B) := ev_op op_fdiv opd_div ha hb
theorem ev_mod (ha : Ev X W a A) (hb : Ev X W b B) : Ev X W (.BinOp a .Mod b pos) (dOp modV A B) := ev_op op_mod opd_mod ha hb
theorem ev_pow (ha : Ev X W a A) (hb : Ev X W b B) : Ev X W (.BinOp a .Pow b pos) (dOp powV A B) := ev_op op_pow opd_pow ha hb
/-- -a -/
def negV (A : DE) : DE := fun δ S => bnd (A δ S) fun x S1 => match x with
  | .int i => some (.ok (.int (-i)) S1)
  | _ => none
theorem ev_neg (ha : Ev X W a A) : Ev X W (.UnaryOp .USub a pos) (negV A) :=
  ⟨pe_imp (pe_un un_neg ha.pe) fun σ H Q ⟨δ, S, w, r, he, p⟩ => ⟨δ, S, w, r, he, p.bnd.mono fun x S1 w1 H1 e1 r1 p1 v hv => by
    cases x with
    | int i => exact ⟨i, hv, p1 w1 H1 Wd.Le.rfl r1 _ rfl⟩
    | _ => exact p1.elim⟩⟩
end

/-! ### == != < <= > >= is in -/
mutual
/-- data without owned things, as the library knows it -/
def py : D → Option PyData
  | .non => some .none
  | .bl b => some (.bool b)
  | .int i => some (.int i)
  | .str s => some (.str s)
  | .tup ds => (pys ds).map .tuple
  | .lst ds => (pys ds).map .list
  | _ => none
def pys : List D → Option (List PyData)
  | [] => some []
  | d :: ds => match py d, pys ds with
    | some x, some xs => some (x :: xs)
    | _, _ => none
end
theorem dp_sub {K : PySem.W.Frag} {w : Wd} {H : Hp} (sub : ∀ b o, w.H b = some o → H b = some o) {p : Addr} {xs : List V} (h : SqT K w.H p xs) : SqT K H p xs := by
  rcases h with (h | ⟨o, h⟩) | h
  · exact .inl (.inl (sub _ _ h))
  · exact .inl (.inr ⟨o, sub _ _ h⟩)
  · exact .inr h
mutual
theorem py_dp {K : PySem.W.Frag} {w : Wd} {H : Hp} (sub : ∀ b o, w.H b = some o → H b = some o) : ∀ {d : D} {v : V} {x : PyData}, Dat K w d v → py d = some x → Dp K H v x
  | .non, _, x, h, e => by cases e; rw [show _ = V.non from h]; exact .non
  | .bl b, _, x, h, e => by cases e; rw [show _ = V.bl b from h]; exact .bl b
  | .int i, _, x, h, e => by cases e; rw [show _ = V.int i from h]; exact .int i
  | .str s, _, x, h, e => by cases e; rw [show _ = V.str s from h]; exact .str s
  | .tup ds, _, x, ⟨p, xs, h1, h2, h3⟩, e => by
    obtain ⟨ys, h4, h5⟩ := Option.map_eq_some_iff.mp (show (pys ds).map PyData.tuple = some x from e)
    subst h5 h1
    exact .tup (dp_sub sub h2) (pys_dp sub h3 h4)
  | .lst ds, _, x, ⟨p, xs, h1, h2, h3⟩, e => by
    obtain ⟨ys, h4, h5⟩ := Option.map_eq_some_iff.mp (show (pys ds).map PyData.list = some x from e)
    subst h5 h1
    exact .lst (SqL.of (sub _ _ h2)) (pys_dp sub h3 h4)
  | .scr _, _, x, _, e => by cases e
  | .ref _, _, x, _, e => by cases e
  | .fn _, _, x, _, e => by cases e
  | .ty _, _, x, _, e => by cases e
theorem pys_dp {K : PySem.W.Frag} {w : Wd} {H : Hp} (sub : ∀ b o, w.H b = some o → H b = some o) : ∀ {ds : List D} {vs : List V} {xs : List PyData}, Dats K w ds vs → pys ds = some xs → DpAll K H vs xs
  | [], _, xs, h, e => by
    cases e
    rw [show _ = [] from h]
    exact .nil
  | d :: ds, _, xs, ⟨v, vs, h1, h2, h3⟩, e => by
    have e' : (match py d, pys ds with | some x, some xs => some (x :: xs) | _, _ => none) = some xs := e
    cases q1 : py d with
    | none => rw [q1] at e'; cases e'
    | some y =>
      cases q2 : pys ds with
      | none => rw [q1, q2] at e'; cases e'
      | some ys =>
        rw [q1, q2] at e'
        cases e'
        subst h1
        exact .cons (py_dp sub h2 q1) (pys_dp sub h3 q2)
end
/-- data, an owned list at the top allowed -/
def pyS (S : Sto) : D → Option PyData
  | .ref n => match lstOf S (.ref n) with
    | some ds => (pys ds).map .list
    | none => none
  | d => py d
theorem pyS_dp {K : PySem.W.Frag} {S : Sto} {w : Wd} {H : Hp} (r : Rep K S w H) {d : D} {v : V} {x : PyData} (h : Dat K w d v) (e : pyS S d = some x) : Dp K H v x := by
  cases d with
  | ref n =>
    have e' : (match lstOf S (.ref n) with | some ds => (pys ds).map PyData.list | none => none) = some x := e
    cases q : lstOf S (.ref n) with
    | none => rw [q] at e'; cases e'
    | some ds =>
      rw [q] at e'
      obtain ⟨ys, h4, h5⟩ := Option.map_eq_some_iff.mp e'
      subst h5
      obtain ⟨p, xs, e1, h1, h2⟩ := lstOf_at r h q
      subst e1
      exact .lst (SqL.of h1) (pys_dp r.sub h2 h4)
  | _ => exact py_dp r.sub h e
/-- == of plain scalars -/
def eqs : D → D → Option Bool
  | .int i, .int j => some (decide (i = j))
  | .str a, .str b => some (decide (a = b))
  | .bl a, .bl b => some (decide (a = b))
  | .non, .non => some true
  | .non, .int _ => some false
  | .int _, .non => some false
  | .non, .bl _ => some false
  | .bl _, .non => some false
  | .non, .str _ => some false
  | .str _, .non => some false
  | .int _, .str _ => some false
  | .str _, .int _ => some false
  | .bl _, .str _ => some false
  | .str _, .bl _ => some false
  | _, _ => none
theorem eqs_ok {K : PySem.W.Frag} {w : Wd} {x y : D} {u v : V} {b : Bool} (hx : Dat K w x u) (hy : Dat K w y v) (e : eqs x y = some b) : scal u v = true ∧ decide (u = v) = b := by
  unfold eqs at e
  split at e <;> cases e <;> (rw [show u = _ from hx, show v = _ from hy]; refine ⟨rfl, ?_⟩; simp)
/-- == of data -/
def eqvV (S : Sto) (x y : D) : Option Bool := match eqs x y with
  | some b => some b
  | none => match pyS S x, pyS S y with
    | some d, some e => if SeqAt.shaped d = true ∧ SeqAt.shaped e = true then some (PyData.eqv d e) else none
    | _, _ => none
def eqV' (x y : D) (S : Sto) : Option (D × Sto) := (eqvV S x y).map fun b => (.bl b, S)
def neV' (x y : D) (S : Sto) : Option (D × Sto) := (eqvV S x y).map fun b => (.bl (!b), S)
theorem eqvV_dp {K : PySem.W.Frag} {S : Sto} {w : Wd} {H : Hp} (r : Rep K S w H) {x y : D} {u v : V} {b : Bool} (hx : Dat K w x u) (hy : Dat K w y v) (e : eqvV S x y = some b) :
    (scal u v = true ∧ decide (u = v) = b) ∨ ∃ d e, Dp K H u d ∧ Dp K H v e ∧ SeqAt.shaped d = true ∧ SeqAt.shaped e = true ∧ PyData.eqv d e = b := by
  unfold eqvV at e
  split at e
  · rename_i c q
    cases e
    exact .inl (eqs_ok hx hy q)
  · cases q1 : pyS S x with
    | none => rw [q1] at e; cases e
    | some d =>
      cases q2 : pyS S y with
      | none => rw [q1, q2] at e; cases e
      | some d2 =>
        rw [q1, q2] at e
        obtain ⟨hs, e2⟩ := some_if (show (if SeqAt.shaped d = true ∧ SeqAt.shaped d2 = true then some (PyData.eqv d d2) else none) = some b from e)
        exact .inr ⟨d, d2, pyS_dp r hx q1, pyS_dp r hy q2, hs.1, hs.2, e2⟩
def rEqV (K : PySem.W.Frag) : R2 := fun x y H Q => rEq x y H Q ∨ rEqD K x y H Q
def rNeV (K : PySem.W.Frag) : R2 := fun x y H Q => rNe x y H Q ∨ rNeD K x y H Q
theorem op_eqV {X : Cx} (hu : X.A.units + 64 < cLine) : OpR X (compareOp .Eq) (rEqV X.K) := op_eq.or (op_eqD hu)
theorem op_neV {X : Cx} (hu : X.A.units + 64 < cLine) : OpR X (compareOp .NotEq) (rNeV X.K) := op_ne.or (op_neD hu)
theorem opd_eq {K : PySem.W.Frag} : OpD K (rEqV K) eqV' := fun x y d S S' w H u v Q h r hx hy q => by
  obtain ⟨b, h1, h2⟩ := Option.map_eq_some_iff.mp h
  cases h2
  rcases eqvV_dp r hx hy h1 with ⟨h3, h4⟩ | ⟨d, e, h3, h4, h5, h6, h7⟩
  · exact .inl ⟨h3, by rw [h4]; exact q w H _ Wd.Le.rfl r rfl⟩
  · exact .inr ⟨d, e, h3, h4, h5, h6, by rw [h7]; exact q w H _ Wd.Le.rfl r rfl⟩
theorem opd_ne {K : PySem.W.Frag} : OpD K (rNeV K) neV' := fun x y d S S' w H u v Q h r hx hy q => by
  obtain ⟨b, h1, h2⟩ := Option.map_eq_some_iff.mp h
  cases h2
  rcases eqvV_dp r hx hy h1 with ⟨h3, h4⟩ | ⟨d, e, h3, h4, h5, h6, h7⟩
  · exact .inl ⟨h3, by rw [h4]; exact q w H _ Wd.Le.rfl r rfl⟩
  · exact .inr ⟨d, e, h3, h4, h5, h6, by rw [h7]; exact q w H _ Wd.Le.rfl r rfl⟩
def ltV (x y : D) (S : Sto) : Option (D × Sto) := match x, y with
  | .int i, .int j => some (.bl (decide (i < j)), S)
  | _, _ => none
def leV (x y : D) (S : Sto) : Option (D × Sto) := match x, y with
  | .int i, .int j => some (.bl (decide (i ≤ j)), S)
  | _, _ => none
def gtV (x y : D) (S : Sto) : Option (D × Sto) := match x, y with
  | .int i, .int j => some (.bl (decide (j < i)), S)
  | _, _ => none
def geV (x y : D) (S : Sto) : Option (D × Sto) := match x, y with
  | .int i, .int j => some (.bl (decide (j ≤ i)), S)
  | _, _ => none
theorem opd_lt {K : PySem.W.Frag} : OpD K (rI0 fun i j => .bl (decide (i < j))) ltV := fun x y d S S' w H u v Q h r hx hy q => by
  unfold ltV at h
  split at h
  · cases h
    exact ⟨_, _, hx, hy, q w H _ Wd.Le.rfl r rfl⟩
  · cases h
theorem opd_le {K : PySem.W.Frag} : OpD K (rI0 fun i j => .bl (decide (i ≤ j))) leV := fun x y d S S' w H u v Q h r hx hy q => by
  unfold leV at h
  split at h
  · cases h
    exact ⟨_, _, hx, hy, q w H _ Wd.Le.rfl r rfl⟩
  · cases h
theorem opd_gt {K : PySem.W.Frag} : OpD K (rI0 fun i j => .bl (decide (j < i))) gtV := fun x y d S S' w H u v Q h r hx hy q => by
  unfold gtV at h
  split at h
  · cases h
    exact ⟨_, _, hx, hy, q w H _ Wd.Le.rfl r rfl⟩
  · cases h
theorem opd_ge {K : PySem.W.Frag} : OpD K (rI0 fun i j => .bl (decide (j ≤ i))) geV := fun x y d S S' w H u v Q h r hx hy q => by
  unfold geV at h
  split at h
  · cases h
    exact ⟨_, _, hx, hy, q w H _ Wd.Le.rfl r rfl⟩
  · cases h
/-- x is None -/
def isNon : D → Bool
  | .non => true
  | _ => false
theorem isNon_ok {K : PySem.W.Frag} {w : Wd} {x : D} {u : V} (h : Dat K w x u) : decide (u = V.non) = isNon x := by
  cases x with
  | non => rw [show u = .non from h]; rfl
  | bl b => rw [show u = .bl b from h]; rfl
  | int b => rw [show u = .int b from h]; rfl
  | str b => rw [show u = .str b from h]; rfl
  | tup ds =>
    obtain ⟨p, xs, e, _⟩ := h
    rw [e]
    rfl
  | lst ds =>
    obtain ⟨p, xs, e, _⟩ := h
    rw [e]
    rfl
  | scr ds =>
    obtain ⟨p, xs, e, _⟩ := h
    rw [e]
    rfl
  | ref n =>
    obtain ⟨e, _⟩ := h
    rw [e]
    rfl
  | fn x => rw [show u = .ref _ from h]; rfl
  | ty n => rw [show u = .ty n from h]; rfl
/-- is of truths: x is True -/
def rIsV : R2 := fun x y H Q => (y = .non ∧ Q (.bl (decide (x = .non))) H) ∨ rIsB x y H Q
def rIsNotV : R2 := fun x y H Q => (y = .non ∧ Q (.bl (!decide (x = .non))) H) ∨ rNotB x y H Q
def isV2 (x y : D) (S : Sto) : Option (D × Sto) := match x, y with
  | x, .non => some (.bl (isNon x), S)
  | .bl a, .bl b => some (.bl (decide (a = b)), S)
  | _, _ => none
def isNotV2 (x y : D) (S : Sto) : Option (D × Sto) := match x, y with
  | x, .non => some (.bl (!isNon x), S)
  | .bl a, .bl b => some (.bl (!decide (a = b)), S)
  | _, _ => none
theorem opd_is {K : PySem.W.Frag} : OpD K rIsV isV2 := fun x y d S S' w H u v Q h r hx hy q => by
  unfold isV2 at h
  split at h
  · cases h
    exact .inl ⟨hy, by rw [isNon_ok hx]; exact q w H _ Wd.Le.rfl r rfl⟩
  · cases h
    exact .inr ⟨_, _, hx, hy, q w H _ Wd.Le.rfl r rfl⟩
  · cases h
theorem opd_isNot {K : PySem.W.Frag} : OpD K rIsNotV isNotV2 := fun x y d S S' w H u v Q h r hx hy q => by
  unfold isNotV2 at h
  split at h
  · cases h
    exact .inl ⟨hy, by rw [isNon_ok hx]; exact q w H _ Wd.Le.rfl r rfl⟩
  · cases h
    exact .inr ⟨_, _, hx, hy, q w H _ Wd.Le.rfl r rfl⟩
  · cases h
theorem op_isV {X : Cx} : OpR X (compareOp .Is) rIsV := op_isN.or op_isBl
theorem op_isNotV {X : Cx} : OpR X (compareOp .IsNot) rIsNotV := op_notN.or op_notBl
end Cw

set_option maxRecDepth 100000
set_option maxHeartbeats 2000000
set_option linter.all false
/-! Containers: in, subscripts, slices, calls of built-ins, methods, dicts. -/
namespace Cw
open PySem PySem.Spec PyProof.Rows L2

/-! ### tables -/
def getA {κ : Type} [DecidableEq κ] : List (κ × D) → κ → Option D
  | [], _ => none
  | p :: ps, k => if p.1 = k then some p.2 else getA ps k
def putA {κ : Type} [DecidableEq κ] (ps : List (κ × D)) (k : κ) (d : D) : List (κ × D) :=
  if (ps.any fun p => decide (p.1 = k)) = true then ps.map (fun p => if p.1 = k then (p.1, d) else p) else ps ++ [(k, d)]
def dropA {κ : Type} [DecidableEq κ] (ps : List (κ × D)) (k : κ) : List (κ × D) := ps.filter fun p => decide (p.1 ≠ k)
section
variable {κ : Type} [DecidableEq κ] {K : PySem.W.Frag} {w : Wd} {H : Hp}
theorem DatA.get {k : κ} : ∀ {ps : List (κ × D)} {xs : List (κ × V)}, DatA K w ps xs → match getA ps k with
    | some d => ∃ v, valV xs k = some v ∧ Dat K w d v
    | none => valV xs k = none
  | [], _, h => by
    have e : _ = [] := h
    subst e
    rfl
  | p :: ps, _, ⟨v, vs, h1, h2, h3⟩ => by
    subst h1
    unfold getA
    by_cases e : p.1 = k
    · rw [if_pos e]
      exact ⟨v, valV_pos e, h2⟩
    · rw [if_neg e, valV_neg (p := (p.1, v)) e]
      exact DatA.get h3
theorem DatA.get_some {k : κ} {ps : List (κ × D)} {xs : List (κ × V)} {d : D} (h : DatA K w ps xs) (e : getA ps k = some d) : ∃ v, valV xs k = some v ∧ Dat K w d v := by
  have q := h.get (k := k)
  rw [e] at q
  exact q
theorem DatA.get_none {k : κ} {ps : List (κ × D)} {xs : List (κ × V)} (h : DatA K w ps xs) (e : getA ps k = none) : valV xs k = none := by
  have q := h.get (k := k)
  rw [e] at q
  exact q
theorem DatA.isSome {k : κ} {ps : List (κ × D)} {xs : List (κ × V)} (h : DatA K w ps xs) : (valV xs k).isSome = (getA ps k).isSome := by
  cases e : getA ps k with
  | none => rw [h.get_none e] <;> rfl
  | some d =>
    obtain ⟨v, h1, _⟩ := h.get_some e
    rw [h1] <;> rfl
theorem DatA.any {k : κ} : ∀ {ps : List (κ × D)} {xs : List (κ × V)}, DatA K w ps xs → (xs.any fun kv => decide (kv.1 = k)) = ps.any fun p => decide (p.1 = k)
  | [], _, h => by
    have e : _ = [] := h
    subst e
    rfl
  | p :: ps, _, ⟨v, vs, h1, h2, h3⟩ => by
    subst h1
    rw [List.any_cons, List.any_cons, DatA.any h3]
theorem DatA.swap {k : κ} {d : D} {v : V} (hd : Dat K w d v) : ∀ {ps : List (κ × D)} {xs : List (κ × V)}, DatA K w ps xs → DatA K w (ps.map fun p => if p.1 = k then (p.1, d) else p) (xs.map fun kv => if kv.1 = k then (kv.1, v) else kv)
  | [], _, h => by
    have e : _ = [] := h
    subst e
    exact DatA.nil
  | p :: ps, _, ⟨u, us, h1, h2, h3⟩ => by
    subst h1
    rw [List.map_cons, List.map_cons]
    by_cases e : p.1 = k
    · rw [if_pos e, if_pos (show (p.1, u).1 = k from e)]
      exact ⟨v, _, rfl, hd, DatA.swap hd h3⟩
    · rw [if_neg e, if_neg (show ¬ (p.1, u).1 = k from e)]
      exact ⟨u, _, rfl, h2, DatA.swap hd h3⟩
theorem DatA.snoc {k : κ} {d : D} {v : V} (hd : Dat K w d v) : ∀ {ps : List (κ × D)} {xs : List (κ × V)}, DatA K w ps xs → DatA K w (ps ++ [(k, d)]) (xs ++ [(k, v)])
  | [], _, h => by
    have e : _ = [] := h
    subst e
    exact ⟨v, [], rfl, hd, DatA.nil⟩
  | p :: ps, _, ⟨u, us, h1, h2, h3⟩ => by
    subst h1
    exact ⟨u, _, rfl, h2, DatA.snoc hd h3⟩
theorem DatA.put {k : κ} {d : D} {v : V} {ps : List (κ × D)} {xs : List (κ × V)} (h : DatA K w ps xs) (hd : Dat K w d v) : DatA K w (putA ps k d) (putK xs k v) := by
  unfold putA putK
  rw [h.any]
  by_cases e : (ps.any fun p => decide (p.1 = k)) = true
  · rw [if_pos e, if_pos e]
    exact h.swap hd
  · rw [if_neg e, if_neg e]
    exact h.snoc hd
theorem DatA.drop {k : κ} : ∀ {ps : List (κ × D)} {xs : List (κ × V)}, DatA K w ps xs → DatA K w (dropA ps k) (dropK xs k)
  | [], _, h => by
    have e : _ = [] := h
    subst e
    exact DatA.nil
  | p :: ps, _, ⟨u, us, h1, h2, h3⟩ => by
    subst h1
    have ih := DatA.drop (k := k) h3
    unfold dropA dropK at *
    by_cases e : p.1 = k
    · rw [List.filter_cons_of_neg (by simpa using e), List.filter_cons_of_neg (by simpa using e)]
      exact ih
    · rw [List.filter_cons_of_pos (by simpa using e), List.filter_cons_of_pos (by simpa using e)]
      exact ⟨u, _, rfl, h2, ih⟩
end
def kOf : D → Option Key
  | .int i => some (.inl i)
  | .str s => some (.inr s)
  | _ => none
theorem kOf_at {K : PySem.W.Frag} {w : Wd} {d : D} {v : V} {k : Key} (h : Dat K w d v) (e : kOf d = some k) : v = kV k := by
  cases d with
  | int i => cases e; exact h
  | str s => cases e; exact h
  | _ => cases e
/-- the owned dict -/
def dicOf (S : Sto) : D → Option (List (Key × D))
  | .ref n => match S[n]? with
    | some (.dic ks) => some ks
    | _ => none
  | _ => none
theorem dicOf_at {K : PySem.W.Frag} {S : Sto} {w : Wd} {H : Hp} {d : D} {v : V} {ks : List (Key × D)} (r : Rep K S w H) (hv : Dat K w d v) (h : dicOf S d = some ks) : ∃ p xs, v = .ref p ∧ H p = some (.dK xs) ∧ DatA K w ks xs := by
  cases d with
  | ref n =>
    obtain ⟨e, hn⟩ := hv
    have h0 : (match S[n]? with | some (.dic ks) => some ks | _ => none) = some ks := h
    cases q : S[n]? with
    | none => rw [q] at h0; cases h0
    | some o =>
      rw [q] at h0
      obtain ⟨_, h2⟩ := r.obs n o q
      cases o with
      | dic es =>
        have e' : es = ks := by simpa using h0
        subst e'
        obtain ⟨xs, h3, h4⟩ := h2
        exact ⟨_, xs, e, h3, h4⟩
      | _ => cases h0
  | _ => cases h

/-! ### in -/
def flatD : D → Bool
  | .non => true
  | .bl _ => true
  | .int _ => true
  | .str _ => true
  | _ => false
def eqF : D → D → Bool
  | .non, .non => true
  | .bl a, .bl b => a == b
  | .bl a, .int b => (if a then 1 else 0) == b
  | .int a, .bl b => a == (if b then 1 else 0)
  | .int a, .int b => a == b
  | .str a, .str b => a == b
  | _, _ => false
theorem flat_ok {K : PySem.W.Frag} {w : Wd} {d : D} {v : V} (h : Dat K w d v) (f : flatD d = true) : flatV v = true := by
  cases d with
  | non => rw [show v = _ from h]; rfl
  | bl b => rw [show v = _ from h]; rfl
  | int i => rw [show v = _ from h]; rfl
  | str s => rw [show v = _ from h]; rfl
  | _ => cases f
theorem eqF_ok {K : PySem.W.Frag} {w : Wd} {d e : D} {u v : V} (hd : Dat K w d u) (he : Dat K w e v) (fd : flatD d = true) (fe : flatD e = true) : eqV u v = eqF d e := by
  cases d <;> first | cases fd | skip
  all_goals (cases e <;> first | cases fe | skip)
  all_goals (rw [show u = _ from hd, show v = _ from he]; rfl)
def inF (x : D) (ds : List D) : Bool := ds.any fun y => eqF y x
theorem flats_ok {K : PySem.W.Frag} {w : Wd} : ∀ {ds : List D} {vs : List V}, Dats K w ds vs → ds.all flatD = true → vs.all flatV = true
  | [], _, h, _ => by
    rw [show _ = [] from h]
    rfl
  | d :: ds, _, ⟨v, vs, h1, h2, h3⟩, f => by
    subst h1
    rw [List.all_cons, Bool.and_eq_true] at f
    rw [List.all_cons, flat_ok h2 f.1, flats_ok h3 f.2]
    rfl
theorem inF_ok {K : PySem.W.Frag} {w : Wd} {x : D} {u : V} (hx : Dat K w x u) (fx : flatD x = true) : ∀ {ds : List D} {vs : List V}, Dats K w ds vs → ds.all flatD = true → inV u vs = inF x ds
  | [], _, h, _ => by
    rw [show _ = [] from h]
    rfl
  | d :: ds, _, ⟨v, vs, h1, h2, h3⟩, f => by
    subst h1
    rw [List.all_cons, Bool.and_eq_true] at f
    have ih := inF_ok hx fx h3 f.2
    unfold inV inF at *
    rw [List.any_cons, List.any_cons, ih, eqF_ok h2 hx f.1 fx]
/-- one sign -/
def oneSign (s : Str) : Option Nat := match s.cps.toList with
  | [c] => some c
  | _ => none
theorem oneSign_eq {s : Str} {c : Nat} (h : oneSign s = some c) : s = ⟨#[c]⟩ := by
  unfold oneSign at h
  split at h
  · rename_i a e
    cases h
    obtain ⟨l⟩ := s
    obtain ⟨l⟩ := l
    have e' : l = [c] := e
    subst e'
    rfl
  · cases h
/-- where something is in data: lists, tuples -/
def inDeep (S : Sto) (x : D) (ds : List D) : Option Bool := match pyS S x, pys ds with
  | some d, some es => if SeqAt.shaped d = true ∧ SeqAt.shaped (.list es) = true then some (es.any fun z => PyData.eqv z d) else none
  | _, _ => none
def inB (S : Sto) (x y : D) : Option Bool := match y with
  | .str z => match x with
    | .str s => (oneSign s).map fun c => decide (c ∈ z.cps.toList)
    | _ => none
  | y => match dicOf S y with
    | some ks => (kOf x).map fun k => (getA ks k).isSome
    | none => match items S y with
      | some ds => if flatD x = true ∧ ds.all flatD = true then some (inF x ds) else inDeep S x ds
      | none => none
def rInTD (K : PySem.W.Frag) (neg : Bool) : R2 := fun x y H Q => ∃ d ds, Dp K H x d ∧ Dp K H y (.tuple ds) ∧ SeqAt.shaped d = true ∧ SeqAt.shaped (.list ds) = true ∧ Q (.bl (if neg then !ds.any (fun z => PyData.eqv z d) else ds.any fun z => PyData.eqv z d)) H
theorem op_inTD {X : Cx} (hu : X.A.units + 65 < cLine) : OpR X (compareOp .In) (rInTD X.K false) := fun pins s σ H x y v u Q I rx ry ⟨d, ds, hd, he, sd, se, q⟩ => by
  obtain ⟨as, r1⟩ := Dp.reads I d x v hd rx
  obtain ⟨bs, r2⟩ := Dp.reads I (.tuple ds) y u he ry
  exact SeqAt.in_tuple_reads r2 r1 (SeqAt.canLay_of_shaped se) (SeqAt.canLay_of_shaped sd) (room_in_shaped sd hu) ⟨.bl _, H, I, rfl, q⟩
theorem op_notInTD {X : Cx} (hu : X.A.units + 65 < cLine) : OpR X (compareOp .NotIn) (rInTD X.K true) := fun pins s σ H x y v u Q I rx ry ⟨d, ds, hd, he, sd, se, q⟩ => by
  obtain ⟨as, r1⟩ := Dp.reads I d x v hd rx
  obtain ⟨bs, r2⟩ := Dp.reads I (.tuple ds) y u he ry
  exact SeqAt.notIn_tuple_reads r2 r1 (SeqAt.canLay_of_shaped se) (SeqAt.canLay_of_shaped sd) (room_in_shaped sd hu) ⟨.bl _, H, I, rfl, q⟩
def rInDic (neg : Bool) : R2 := fun y x H Q => ∃ a o, x = .ref a ∧ DGet H a y o ∧ Q (.bl (if neg then !o.isSome else o.isSome)) H
theorem op_inDic {X : Cx} (hu : X.A.units + 1 < cLine) : OpR X (compareOp .In) (rInDic false) := fun pins s σ H x y v u Q I rx ry ⟨a, o, e, g, q⟩ => by
  subst e
  obtain rfl : u = Value.ref a := ry
  exact d_in hu I g rx fun s3 I3 => ⟨.bl o.isSome, H, I3, rfl, q⟩
theorem op_notInDic {X : Cx} (hu : X.A.units + 1 < cLine) : OpR X (compareOp .NotIn) (rInDic true) := fun pins s σ H x y v u Q I rx ry ⟨a, o, e, g, q⟩ => by
  subst e
  obtain rfl : u = Value.ref a := ry
  exact d_notIn hu I g rx fun s3 I3 => ⟨.bl (!o.isSome), H, I3, rfl, q⟩
def rSign (neg : Bool) : R2 := fun x y H Q => ∃ (c : Nat) (z : Str), x = .str ⟨#[c]⟩ ∧ y = .str z ∧ Q (.bl (if neg then !decide (c ∈ z.cps.toList) else decide (c ∈ z.cps.toList))) H
def rInAll (K : PySem.W.Frag) (neg : Bool) : R2 := fun x y H Q => rSign neg x y H Q ∨ rInDic neg x y H Q ∨ rIn K neg x y H Q ∨ rInTD K neg x y H Q ∨ (if neg then rNotInD K x y H Q else rInD K x y H Q)
theorem op_inAll {X : Cx} (hu : X.A.units + 65 < cLine) : OpR X (compareOp .In) (rInAll X.K false) :=
  (show OpR X (compareOp .In) (rSign false) from op_in_sign).or ((op_inDic (by omega)).or (op_in_seq.or ((op_inTD hu).or (op_inD hu))))
theorem op_notInAll {X : Cx} (hu : X.A.units + 65 < cLine) : OpR X (compareOp .NotIn) (rInAll X.K true) :=
  (show OpR X (compareOp .NotIn) (rSign true) from op_notIn_sign).or ((op_notInDic (by omega)).or (op_notIn_seq.or ((op_notInTD hu).or (op_notInD hu))))
theorem in_ok {K : PySem.W.Frag} {neg : Bool} {x y : D} {S : Sto} {w : Wd} {H : Hp} {u v : V} {b : Bool} {Q : VK} (r : Rep K S w H) (hx : Dat K w x u) (hy : Dat K w y v) (h : inB S x y = some b) (q : Q (.bl (if neg then !b else b)) H) : rInAll K neg u v H Q := by
  unfold inB at h
  split at h
  · rename_i z
    split at h
    · rename_i s
      obtain ⟨c, h1, h2⟩ := Option.map_eq_some_iff.mp h
      subst h2
      exact .inl ⟨c, z, by rw [show u = .str s from hx, oneSign_eq h1], hy, q⟩
    · cases h
  · split at h
    · rename_i ks hk
      obtain ⟨k, h1, h2⟩ := Option.map_eq_some_iff.mp h
      subst h2
      obtain ⟨p, xs, e1, h3, h4⟩ := dicOf_at r hy hk
      refine .inr (.inl ⟨p, valV xs k, e1, ?_, by rw [h4.isSome]; exact q⟩)
      rw [kOf_at hx h1]
      exact DGet.k h3
    · split at h
      · rename_i ds hds
        obtain ⟨p, xs, e1, h3, h4⟩ := items_at r hy hds
        by_cases hf : flatD x = true ∧ ds.all flatD = true
        · rw [if_pos hf] at h
          cases h
          refine .inr (.inr (.inl ⟨p, xs, e1, h3, flat_ok hx hf.1, flats_ok h4 hf.2, ?_⟩))
          rw [inF_ok hx hf.1 h4 hf.2]
          exact q
        · rw [if_neg hf] at h
          unfold inDeep at h
          split at h
          · rename_i d es q1 q2
            obtain ⟨hs, e2⟩ := some_if h
            subst e2
            have h5 := pyS_dp r hx q1
            have h6 := pys_dp r.sub h4 q2
            rcases h3 with h3 | h3
            · refine .inr (.inr (.inr (.inr ?_)))
              cases neg with
              | true => exact ⟨d, es, h5, by rw [e1]; exact .lst h3 h6, hs.1, hs.2, q⟩
              | false => exact ⟨d, es, h5, by rw [e1]; exact .lst h3 h6, hs.1, hs.2, q⟩
            · exact .inr (.inr (.inr (.inl ⟨d, es, h5, by rw [e1]; exact .tup h3 h6, hs.1, hs.2, q⟩)))
          · cases h
      · cases h
def inV' (x y : D) (S : Sto) : Option (D × Sto) := (inB S x y).map fun b => (.bl b, S)
def notInV' (x y : D) (S : Sto) : Option (D × Sto) := (inB S x y).map fun b => (.bl (!b), S)
theorem opd_in {K : PySem.W.Frag} : OpD K (rInAll K false) inV' := fun x y d S S' w H u v Q h r hx hy q => by
  obtain ⟨b, h1, h2⟩ := Option.map_eq_some_iff.mp h
  cases h2
  exact in_ok r hx hy h1 (q w H _ Wd.Le.rfl r rfl)
theorem opd_notIn {K : PySem.W.Frag} : OpD K (rInAll K true) notInV' := fun x y d S S' w H u v Q h r hx hy q => by
  obtain ⟨b, h1, h2⟩ := Option.map_eq_some_iff.mp h
  cases h2
  exact in_ok r hx hy h1 (q w H _ Wd.Le.rfl r rfl)

/-! ### comparisons as values and as tests -/
section
variable {X : Cx} {W : WX} {pos : Pos} {a b c : Expr} {A B C : DE}
theorem Rdy.u65 {k : Nat} (h : Rdy X W k) : X.A.units + 65 < cLine := by have := h.rm.un; omega
theorem Rdy.u64 {k : Nat} (h : Rdy X W k) : X.A.units + 64 < cLine := by have := h.rm.un; omega
theorem Rdy.u1 {k : Nat} (h : Rdy X W k) : X.A.units + 1 < cLine := by have := h.rm.un; omega
/-- a comparison's rule with what it comes to -/
structure CmpR (X : Cx) (op : CmpOp) (g : D → D → Sto → Option (D × Sto)) : Prop where
  ex : ∃ rr, OpR X (compareOp op) rr ∧ OpD X.K rr g
variable {k : Nat}
theorem c_eq (h : Rdy X W k) : CmpR X .Eq eqV' := ⟨_, op_eqV h.u64, opd_eq⟩
theorem c_ne (h : Rdy X W k) : CmpR X .NotEq neV' := ⟨_, op_neV h.u64, opd_ne⟩
theorem c_lt (h : Rdy X W k) : CmpR X .Lt ltV := ⟨_, op_lt, opd_lt⟩
theorem c_le (h : Rdy X W k) : CmpR X .LtE leV := ⟨_, op_le, opd_le⟩
theorem c_gt (h : Rdy X W k) : CmpR X .Gt gtV := ⟨_, op_gt, opd_gt⟩
theorem c_ge (h : Rdy X W k) : CmpR X .GtE geV := ⟨_, op_ge, opd_ge⟩
theorem c_is (h : Rdy X W k) : CmpR X .Is isV2 := ⟨_, op_isV, opd_is⟩
theorem c_isNot (h : Rdy X W k) : CmpR X .IsNot isNotV2 := ⟨_, op_isNotV, opd_isNot⟩
theorem c_in (h : Rdy X W k) : CmpR X .In inV' := ⟨_, op_inAll h.u65, opd_in⟩
theorem c_notIn (h : Rdy X W k) : CmpR X .NotIn notInV' := ⟨_, op_notInAll h.u65, opd_notIn⟩
theorem ev_c {op : CmpOp} {g : D → D → Sto → Option (D × Sto)} (hr : CmpR X op g) (ha : Ev X W a A) (hb : Ev X W b B) (hm : behindInMarks op b = false := by first | exact nomark _ | with_unfolding_all rfl) : Ev X W (.Compare a [op] [b] pos) (dOp g A B) := by
  obtain ⟨rr, h1, h2⟩ := hr.ex
  exact ev_cmp h1 h2 ha hb hm
theorem tv_c {op : CmpOp} {g : D → D → Sto → Option (D × Sto)} (hr : CmpR X op g) (ha : Ev X W a A) (hb : Ev X W b B) (hm : behindInMarks op b = false := by first | exact nomark _ | with_unfolding_all rfl) : Tv X W (.Compare a [op] [b] pos) (asT (dOp g A B)) := by
  obtain ⟨rr, h1, h2⟩ := hr.ex
  exact tv_cmp h1 h2 ha hb hm
/-- a op b op2 c -/
def dChn (g g2 : D → D → Sto → Option (D × Sto)) (A B C : DE) : DE := fun δ S => bnd (A δ S) fun x S1 => bnd (B δ S1) fun y S2 => bnd (upS (g x y S2)) fun z S3 => match z with
  | .bl true => bnd (C δ S3) fun x2 S4 => upS (g2 y x2 S4)
  | .bl false => some (.ok (.bl false) S3)
  | _ => none
theorem opd_run {K : PySem.W.Frag} {σ : L2.St} {rr : R2} {g : D → D → Sto → Option (D × Sto)} {x y : D} {S : Sto} {w : Wd} {H : Hp} {u v : V} {Q : VK} (hg : OpD K rr g) (r : Rep K S w H) (hx : Dat K w x u) (hy : Dat K w y v) (p : Po K W σ w (upS (g x y S)) (Got K Q)) : rr u v H Q := by
  cases eg : g x y S with
  | none =>
    rw [eg] at p
    exact p.elim
  | some q =>
    obtain ⟨d, S3⟩ := q
    rw [eg] at p
    exact hg x y d S S3 w H u v Q eg r hx hy fun w' H' z e3 r3 hz => p w' H' e3 r3 z hz
theorem tev_chn {K : PySem.W.Frag} {rr rr2 : R2} {g g2 : D → D → Sto → Option (D × Sto)} (hg : OpD K rr g) (hg2 : OpD K rr2 g2) : ∀ σ H Q, TEv K W (dChn g g2 A B C) σ H Q → tChain rr rr2 (TEv K W A) (TEv K W B) (TEv K W C) σ H Q := fun σ H Q ⟨δ, S, w, r, he, p⟩ =>
  ⟨δ, S, w, r, he, p.bnd.mono fun x S1 w1 H1 e1 r1 p1 u hu => ⟨δ, S1, w1, r1, he.le e1, p1.bnd.mono fun y S2 w2 H2 e2 r2 p2 v hv =>
    opd_run (W := W) (σ := σ) hg r2 (hu.le e2) hv (p2.bnd.mono fun z S3 w3 H3 e3 r3 p3 t ht => by
      cases z with
      | bl b =>
        refine ⟨b, ht, ?_⟩
        cases b with
        | false => exact iteF (p3 w3 H3 Wd.Le.rfl r3 _ rfl)
        | true => exact iteT ⟨δ, S3, w3, r3, ((he.le e1).le e2).le e3, (show Po K W σ w3 (bnd (C δ S3) fun x2 S4 => upS (g2 y x2 S4)) (Got K Q) from p3).bnd.mono fun x2 S4 w4 H4 e4 r4 p4 t2 ht2 => opd_run (W := W) (σ := σ) hg2 r4 ((hv.le e3).le e4) ht2 p4⟩
      | _ => exact p3.elim)⟩⟩
theorem ev_chain {op op2 : CmpOp} {g g2 : D → D → Sto → Option (D × Sto)} (hr : CmpR X op g) (hr2 : CmpR X op2 g2) (ha : Ev X W a A) (hb : Ev X W b B) (hc : Ev X W c C) (hm : lastMarks [op, op2] [b, c] = false := by with_unfolding_all rfl) : Ev X W (.Compare a [op, op2] [b, c] pos) (dChn g g2 A B C) := by
  obtain ⟨rr, h1, h2⟩ := hr.ex
  obtain ⟨rr2, h3, h4⟩ := hr2.ex
  exact ⟨pe_imp (pe_chain h1 h3 ha.pe hb.pe hc.pe hm) (tev_chn h2 h4)⟩
theorem tv_chain {op op2 : CmpOp} {g g2 : D → D → Sto → Option (D × Sto)} (hr : CmpR X op g) (hr2 : CmpR X op2 g2) (ha : Ev X W a A) (hb : Ev X W b B) (hc : Ev X W c C) (hm : lastMarks [op, op2] [b, c] = false := by with_unfolding_all rfl) : Tv X W (.Compare a [op, op2] [b, c] pos) (asT (dChn g g2 A B C)) := by
  obtain ⟨rr, h1, h2⟩ := hr.ex
  obtain ⟨rr2, h3, h4⟩ := hr2.ex
  exact ⟨pt_imp (pt_chain h1 h3 ha.pe hb.pe hc.pe hm) (ttv_of (tev_chn h2 h4))⟩
end
end Cw

set_option maxRecDepth 100000
set_option maxHeartbeats 2000000
set_option linter.all false
/-! Subscripts, slices, stores; calls of built-ins; methods of built-in types. -/
namespace Cw
open PySem PySem.Spec PyProof.Rows L2

/-! ### o[i] -/
theorem Dats.atI {K : PySem.W.Frag} {w : Wd} {ds : List D} {vs : List V} {i : Int} {d : D} (h : Dats K w ds vs) (e : L2.atI ds i = some d) : ∃ v, L2.atI vs i = some v ∧ Dat K w d v := by
  unfold L2.atI at *
  rw [h.len]
  cases q : ixN ds.length i with
  | none => rw [q] at e; cases e
  | some j =>
    rw [q] at e
    exact h.get (show ds[j]? = some d from e)
def ixV (x y : D) (S : Sto) : Option (D × Sto) := match dicOf S x with
  | some ks => match kOf y with
    | some k => (getA ks k).map fun d => (d, S)
    | none => none
  | none => match y with
    | .int i => match x with
      | .str z => if z.length ≤ big then (L2.atI z.cps.toList i).map fun c => (.str ⟨#[c]⟩, S) else none
      | x => match items S x with
        | some ds => (L2.atI ds i).map fun d => (d, S)
        | none => none
    | _ => none
def rIxDic : R2 := fun x y H Q => ∃ a v, x = .ref a ∧ DGet H a y (some v) ∧ Q v H
theorem ix_dic {X : Cx} (hu : X.A.units + 1 < cLine) : IxR X rIxDic := fun value slice pins s σ H x y v u Q I rx ry ⟨a, z, e, g, q⟩ hs => by
  subst e
  obtain rfl : v = Value.ref a := rx
  exact tail_any (dict_typeIs I g) PySem.F.slot_dict_getitem.lookup (d_getItem hu I g ry fun w' s3 I3 rw' => ⟨z, H, I3, rw', q⟩) hs
def rIxV (K : PySem.W.Frag) : R2 := fun x y H Q => rIxDic x y H Q ∨ rIx K x y H Q
theorem ix_V {X : Cx} (hu : X.A.units + 1 < cLine) : IxR X (rIxV X.K) := (ix_dic hu).or ix_seq
theorem opd_ix {K : PySem.W.Frag} : OpD K (rIxV K) ixV := fun x y d S S' w H u v Q h r hx hy q => by
  unfold ixV at h
  split at h
  · rename_i ks hk
    split at h
    · rename_i k hkey
      obtain ⟨d', h1, h2⟩ := Option.map_eq_some_iff.mp h
      cases h2
      obtain ⟨p, xs, e1, h3, h4⟩ := dicOf_at r hx hk
      obtain ⟨z, h5, h6⟩ := h4.get_some h1
      refine .inl ⟨p, z, e1, ?_, q w H _ Wd.Le.rfl r h6⟩
      rw [kOf_at hy hkey, ← h5]
      exact DGet.k h3
    · cases h
  · split at h
    · rename_i i
      split at h
      · rename_i z _
        by_cases hz : z.length ≤ big
        · rw [if_pos hz] at h
          obtain ⟨c, h1, h2⟩ := Option.map_eq_some_iff.mp h
          cases h2
          exact .inr (.inr (.inr ⟨z, i, c, hx, hy, big_line hz, h1, q w H _ Wd.Le.rfl r rfl⟩))
        · rw [if_neg hz] at h
          cases h
      · split at h
        · rename_i ds hds
          obtain ⟨d', h1, h2⟩ := Option.map_eq_some_iff.mp h
          cases h2
          obtain ⟨p, xs, e1, h3, h4⟩ := items_at r hx hds
          obtain ⟨z, h5, h6⟩ := h4.atI h1
          rcases h3 with h3 | h3
          · exact .inr (.inl ⟨p, xs, i, z, e1, hy, h3, h5, q w H _ Wd.Le.rfl r h6⟩)
          · exact .inr (.inr (.inl ⟨p, xs, i, z, e1, hy, h3, h5, q w H _ Wd.Le.rfl r h6⟩))
        · cases h
    · cases h
section
variable {X : Cx} {W : WX} {pos : Pos} {k : Nat} {a b c e : Expr} {es : List Expr} {A B C : DE} {T : DA}
theorem ev_ix (h : Rdy X W k) (ha : Ev X W a A) (hb : Ev X W b B) (hs : PlainIx b := by intro _ _; rfl) : Ev X W (.Subscript a b pos) (dOp ixV A B) := ⟨pe_imp (pe_ix (ix_V h.u1) ha.pe hb.pe hs) (tev_op opd_ix)⟩

/-! ### slices -/
def cutD (ds : List D) (lo hi : Option Int) : List D := (ds.drop (HT.sIx ds.length 0 lo)).take (HT.sIx ds.length ds.length hi - HT.sIx ds.length 0 lo)
theorem Dats.cut {K : PySem.W.Frag} {w : Wd} {ds : List D} {vs : List V} (h : Dats K w ds vs) (lo hi : Option Int) : Dats K w (cutD ds lo hi) (cutV vs lo hi) := by
  unfold cutD cutV
  rw [h.len]
  exact (h.drop _).take _
/-- a list, be it only read -/
def lsOf (S : Sto) : D → Option (List D)
  | .scr ds => some ds
  | d => lstOf S d
theorem lsOf_at {K : PySem.W.Frag} {S : Sto} {w : Wd} {H : Hp} {d : D} {v : V} {ds : List D} (r : Rep K S w H) (hv : Dat K w d v) (h : lsOf S d = some ds) : ∃ p xs, v = .ref p ∧ SqL K H p xs ∧ Dats K w ds xs := by
  cases d with
  | scr es =>
    obtain ⟨p, xs, e, h1, h2⟩ := hv
    have e' : es = ds := by simpa [lsOf] using h
    subst e'
    exact ⟨p, xs, e, r.sqL h1, h2⟩
  | _ =>
    obtain ⟨p, xs, e, h1, h2⟩ := lstOf_at r hv h
    exact ⟨p, xs, e, SqL.of h1, h2⟩
/-- a part that may be left out -/
def oPart : Option DE → Env → Sto → Option (Out (Option Int))
  | none, _, S => some (.ok none S)
  | some A, δ, S => bnd (A δ S) fun x S1 => match x with
    | .int i => some (.ok (some i) S1)
    | _ => none
def slV (x : D) (lo hi : Option Int) (S : Sto) : Option (D × Sto) := match x with
  | .str z => if z.length ≤ big then some (.str (cutS z lo hi), S) else none
  | .tup ds => some (.tup (cutD ds lo hi), S)
  | x => match lsOf S x with
    | some ds => some (.lst (cutD ds lo hi), S)
    | none => none
def dSl (A : DE) (lo hi : Option DE) : DE := fun δ S => bnd (A δ S) fun x S1 => bnd (oPart lo δ S1) fun l S2 => bnd (oPart hi δ S2) fun u S3 => upS (slV x l u S3)
structure Ov (X : Cx) (W : WX) (e : Option Expr) (A : Option DE) : Prop where
  ex : ∃ t, PO X e t ∧ ∀ σ H Q, (∃ δ S w, Rep X.K S w H ∧ EnvOk X.K w σ δ ∧ Po X.K W σ w (oPart A δ S) (fun i _ _ H' => Q i H')) → t σ H Q
theorem ov_none : Ov X W none none := ⟨_, po_none, fun σ H Q ⟨δ, S, w, r, he, p⟩ => p w H Wd.Le.rfl r⟩
theorem ov_some (h : Ev X W e A) : Ov X W (some e) (some A) := ⟨_, po_some h.pe, fun σ H Q ⟨δ, S, w, r, he, p⟩ => ⟨δ, S, w, r, he, p.bnd.mono fun x S1 w1 H1 e1 r1 p1 v hv => by
  cases x with
  | int i => exact ⟨i, hv, p1 w1 H1 Wd.Le.rfl r1⟩
  | _ => exact p1.elim⟩⟩
def rSlV (K : PySem.W.Frag) : V → Option Int → Option Int → Hp → VK → Prop := fun x lo hi H Q => rSlL K x lo hi H Q ∨ rSlA K x lo hi H Q ∨ rSlS x lo hi H Q
theorem sl_V : SlR X (rSlV X.K) := sl_list.or (sl_tupA.or sl_str)
theorem cut_whole {ds : List D} {n : Nat} (hn : n = ds.length) {lo hi : Option Int} (h : HT.sIx n 0 lo = 0 ∧ HT.sIx n n hi = n) : cutD ds lo hi = ds := by
  subst hn
  unfold cutD
  rw [h.1, h.2, List.drop_zero, Nat.sub_zero, List.take_length]
theorem sl_ok {K : PySem.W.Frag} {x d : D} {lo hi : Option Int} {S S' : Sto} {w : Wd} {H : Hp} {u : V} {Q : VK} (h : slV x lo hi S = some (d, S')) (r : Rep K S w H) (hx : Dat K w x u) (q : ∀ w' H' z, w.Le w' → Rep K S' w' H' → Dat K w' d z → Q z H') : rSlV K u lo hi H Q := by
  unfold slV at h
  split at h
  · rename_i z
    obtain ⟨hz, e⟩ := some_if h
    cases e
    exact .inr (.inr ⟨z, hx, big_line hz, q w H _ Wd.Le.rfl r rfl⟩)
  · rename_i ds
    cases h
    obtain ⟨p, xs, e1, h1, h2⟩ := hx
    refine .inr (.inl ⟨p, xs, e1, r.sqT h1, fun hw => ?_, fun _ z hz => new_tup' r hz (h2.cut lo hi) q⟩)
    rw [cut_whole h2.len hw] at q
    exact q w H _ Wd.Le.rfl r ⟨p, xs, rfl, h1, h2⟩
  · split at h
    · rename_i ds hds
      cases h
      obtain ⟨p, xs, e1, h3, h4⟩ := lsOf_at r hx hds
      exact .inl ⟨p, xs, e1, h3, fun z hz => new_lst' r hz (h4.cut lo hi) q⟩
    · cases h
theorem ev_sl {p2 : Pos} {lo hi : Option Expr} {L U : Option DE} (ha : Ev X W a A) (hl : Ov X W lo L) (hu : Ov X W hi U) : Ev X W (.Subscript a (.Slice lo hi none p2) pos) (dSl A L U) := by
  obtain ⟨t1, h1, k1⟩ := hl.ex
  obtain ⟨t2, h2, k2⟩ := hu.ex
  refine ⟨pe_imp (pe_slice sl_V ha.pe h1 h2) fun σ H Q ⟨δ, S, w, r, he, p⟩ => ⟨δ, S, w, r, he, p.bnd.mono fun x S1 w1 H1 e1 r1 p1 u hu => ?_⟩⟩
  refine k1 σ H1 _ ⟨δ, S1, w1, r1, he.le e1, p1.bnd.mono fun l S2 w2 H2 e2 r2 p2 => ?_⟩
  refine k2 σ H2 _ ⟨δ, S2, w2, r2, (he.le e1).le e2, p2.bnd.mono fun g S3 w3 H3 e3 r3 p3 => ?_⟩
  cases eg : slV x l g S3 with
  | none =>
    rw [eg] at p3
    exact p3.elim
  | some q =>
    obtain ⟨d, S4⟩ := q
    rw [eg] at p3
    exact sl_ok eg r3 ((hu.le e2).le e3) fun w' H' z e4 r4 hz => p3 w' H' e4 r4 z hz

/-! ### stores into lists and dicts -/
def setV (x y d : D) (S : Sto) : Option Sto := match x with
  | .ref n => match S[n]? with
    | some (.lst ds) => match y with
      | .int i => (ixN ds.length i).map fun j => S.set n (.lst (ds.set j d))
      | _ => none
    | some (.dic ks) => match kOf y with
      | some k => if ks.length < big then some (S.set n (.dic (putA ks k d))) else none
      | none => none
    | _ => none
  | _ => none
def rSetV : TSet := fun o i v H Q => rSetL o i v H Q ∨ rSetD o i v H Q
theorem set_V (hu : X.A.units + 1 < cLine) : PSet X rSetV := fun pins s σ H o i v ov iv u Q I ro ri rv h => h.elim (set_list pins s σ H o i v ov iv u Q I ro ri rv) (set_dict hu pins s σ H o i v ov iv u Q I ro ri rv)
theorem set_ok {K : PySem.W.Frag} {x y d : D} {S S' : Sto} {w : Wd} {H : Hp} {u v z : V} {Q : Hp → Prop} (h : setV x y d S = some S') (r : Rep K S w H) (hx : Dat K w x u) (hy : Dat K w y v) (hd : Dat K w d z) (q : ∀ H', Rep K S' w H' → Q H') : rSetV u v z H Q := by
  unfold setV at h
  split at h
  · rename_i n
    obtain ⟨e, hn⟩ := hx
    split at h
    · rename_i ds hds
      split at h
      · rename_i i
        obtain ⟨j, h1, h2⟩ := Option.map_eq_some_iff.mp h
        cases h2
        obtain ⟨_, xs, h3, h4⟩ := r.obs n _ hds
        refine .inl ⟨_, xs, i, j, e, hy, h3, by rw [h4.len]; exact h1, q _ (r.write hn (fun b hb => upd_ne hb) ⟨_, upd_same, h4.set j hd⟩)⟩
      · cases h
    · rename_i ks hks
      split at h
      · rename_i k hk
        obtain ⟨hl, e2⟩ := some_if h
        cases e2
        obtain ⟨_, xs, h3, h4⟩ := r.obs n _ hks
        refine .inr ⟨_, _, e, ?_, q _ (r.write hn (fun b hb => upd_ne hb) ⟨_, upd_same, h4.put (k := k) hd⟩)⟩
        rw [kOf_at hy hk]
        exact DPut.k h3 (big_lt (by rw [h4.len]; exact hl))
      · cases h
    · cases h
  · cases h
/-- o[i] = e: e, then o, then i -/
def sSub (E A B : DE) : DS := fun δ S => bndS (E δ S) δ fun d S1 => bndS (A δ S1) δ fun x S2 => bndS (B δ S2) δ fun y S3 => match setV x y d S3 with
  | some S4 => some (.nx δ S4)
  | none => none
theorem sv_sub {o i : Expr} {p2 : Pos} {E : DE} (h : Rdy X W k) (he : Ev X W e E) (ho : Ev X W o A) (hi : Ev X W i B) (hs : swapsWithSole [.Subscript o i p2] e pos.line X.env = pure false := by rfl) (hw : swappedStores [.Subscript o i p2] e X.env = pure none := by rfl)
    (h1 : (assignEach [.Subscript o i p2] X.env).map (·.2) = [assign (.Subscript o i p2) X.env] := by rfl)
    (h2 : ∀ v, assign (.Subscript o i p2) X.env v = (do
      let ov ← holding [v] (eval o X.env)
      let iv ← holding [v, ov] (eval i X.env)
      standAt p2
      holding [v, ov, iv] (setItem ov iv v)
      release [v, ov, iv] []) := by intro _; rfl) : Sv X W (.Assign [.Subscript o i p2] e pos) (sSub E A B) :=
  ⟨ps_imp (ps_asg he.pe (pg_sub ho.pe hi.pe (set_V h.u1) h2) hs hw h1) fun D σ H ⟨δ, S, w, r, hE, p⟩ => ⟨δ, S, w, r, hE, (p.bnd hE).mono fun d S1 w1 H1 e1 r1 p1 z hz =>
    ⟨δ, S1, w1, r1, hE.le e1, (p1.bnd (hE.le e1)).mono fun x S2 w2 H2 e2 r2 p2 u hu => ⟨δ, S2, w2, r2, (hE.le e1).le e2, (p2.bnd ((hE.le e1).le e2)).mono fun y S3 w3 H3 e3 r3 p3 v hv => by
      cases eg : setV x y d S3 with
      | none =>
        rw [eg] at p3
        exact p3.elim
      | some S4 =>
        rw [eg] at p3
        exact set_ok eg r3 (hu.le e3) hv ((hz.le e2).le e3) fun H' r4 => p3 σ w3 H' Wd.Le.rfl r4 (((hE.le e1).le e2).le e3)⟩⟩⟩⟩

/-! ### built-ins by their values -/
def CallD (K : PySem.W.Frag) (rr : List V → Hp → VK → Prop) (g : List D → Sto → Option (D × Sto)) : Prop :=
  ∀ (xs : List D) (d : D) (S S' : Sto) (w : Wd) (H : Hp) (vs : List V) (Q : VK), g xs S = some (d, S') → Rep K S w H → Dats K w xs vs → (∀ w' H' z, w.Le w' → Rep K S' w' H' → Dat K w' d z → Q z H') → rr vs H Q
def dCB (g : List D → Sto → Option (D × Sto)) (T : DA) : DE := fun δ S => bnd (T δ S) fun xs S1 => upS (g xs S1)
theorem tev_cb {K : PySem.W.Frag} {rr : List V → Hp → VK → Prop} {g : List D → Sto → Option (D × Sto)} (hg : CallD K rr g) : ∀ σ H Q, TEv K W (dCB g T) σ H Q → tCB rr (TAv K W T) σ H Q := fun σ H Q ⟨δ, S, w, r, he, p⟩ => ⟨δ, S, w, r, he, p.bnd.mono fun xs S1 w1 H1 e1 r1 p1 vs hvs => by
  cases eg : g xs S1 with
  | none =>
    rw [eg] at p1
    exact p1.elim
  | some q =>
    obtain ⟨d, S2⟩ := q
    rw [eg] at p1
    exact hg xs d S1 S2 w1 H1 vs Q eg r1 hvs fun w' H' z e2 r2 hz => p1 w' H' e2 r2 z hz⟩
/-- a built-in's rule with what it comes to -/
structure CalR (X : Cx) (f : Value) (g : List D → Sto → Option (D × Sto)) : Prop where
  ex : ∃ rr, CallR X f rr ∧ CallD X.K rr g
theorem CalR.or {f : Value} {g g' : List D → Sto → Option (D × Sto)} (h : CalR X f g) (h' : CalR X f g') : CalR X f (fun xs S => match g xs S with | some q => some q | none => g' xs S) := by
  obtain ⟨r1, a1, b1⟩ := h.ex
  obtain ⟨r2, a2, b2⟩ := h'.ex
  refine ⟨fun xs H Q => r1 xs H Q ∨ r2 xs H Q, fun pins s σ H xs us Q I rv q => q.elim (a1 pins s σ H xs us Q I rv) (a2 pins s σ H xs us Q I rv), fun xs d S S' w H vs Q hg r hd q => ?_⟩
  cases e : g xs S with
  | none =>
    simp only [e] at hg
    exact .inr (b2 xs d S S' w H vs Q hg r hd q)
  | some z =>
    simp only [e] at hg
    exact .inl (b1 xs d S S' w H vs Q (e.trans hg) r hd q)
theorem ev_cb {x : Str} {id : String} {p : Pos} {g : List D → Sto → Option (D × Sto)} (hc : CalR X (.builtin id) g) (hg : Gl X x) (hm : X.mg x = none) (hv : bootBuiltins x = some (.builtin id)) (ha : Av X W (e :: es) T) (hn : x ≠ "__name__" := by decide) (hdb : (x == ("__debug__" : Str)) = false := by decide)
    (he : starEach (e :: es) X.env = (false, eval e X.env) :: starEach es X.env := by rfl) (hpl : (backTo pos (starEach es X.env)).any (·.1) = false := by rfl) : Ev X W (.Call (.Name x p) (e :: es) [] pos) (dCB g T) := by
  obtain ⟨rr, h1, h2⟩ := hc.ex
  exact ⟨pe_imp (pe_callB h1 hg hm hv ha.pa hn hdb he hpl) (tev_cb h2)⟩
theorem ev_cty {x : Str} {id : String} {p : Pos} {g : List D → Sto → Option (D × Sto)} (hc : CalR X (.type id) g) (hg : Gl X x) (hm : X.mg x = none) (hv : bootBuiltins x = some (.type id)) (ha : Av X W (e :: es) T) (hn : x ≠ "__name__" := by decide) (hdb : (x == ("__debug__" : Str)) = false := by decide)
    (he : starEach (e :: es) X.env = (false, eval e X.env) :: starEach es X.env := by rfl) (hpl : (backTo pos (starEach es X.env)).any (·.1) = false := by rfl) : Ev X W (.Call (.Name x p) (e :: es) [] pos) (dCB g T) := by
  obtain ⟨rr, h1, h2⟩ := hc.ex
  exact ⟨pe_imp (pe_callTy h1 hg hm hv ha.pa hn hdb he hpl) (tev_cb h2)⟩
theorem dats_one {K : PySem.W.Frag} {w : Wd} {d : D} {vs : List V} (h : Dats K w [d] vs) : ∃ v, vs = [v] ∧ Dat K w d v := by
  obtain ⟨v, r, e, h1, h2⟩ := h
  exact ⟨v, by rw [e, show r = [] from h2], h1⟩
theorem dats_two {K : PySem.W.Frag} {w : Wd} {d e : D} {vs : List V} (h : Dats K w [d, e] vs) : ∃ v u, vs = [v, u] ∧ Dat K w d v ∧ Dat K w e u := by
  obtain ⟨v, r, e, h1, h2⟩ := h
  obtain ⟨u, e2, h3⟩ := dats_one h2
  exact ⟨v, u, by rw [e, e2], h1, h3⟩
/-- one argument -/
theorem cal1 {f : Value} {rr : List V → Hp → VK → Prop} {g : D → Sto → Option (D × Sto)} (h : CallR X f rr) (k : ∀ (x d : D) (S S' : Sto) (w : Wd) (H : Hp) (v : V) (Q : VK), g x S = some (d, S') → Rep X.K S w H → Dat X.K w x v → (∀ w' H' z, w.Le w' → Rep X.K S' w' H' → Dat X.K w' d z → Q z H') → rr [v] H Q) :
    CalR X f (fun xs S => match xs with | [x] => g x S | _ => none) := ⟨rr, h, fun xs d S S' w H vs Q hg r hd q => by
  match xs, hg with
  | [x], hg =>
    obtain ⟨v, e, h1⟩ := dats_one hd
    subst e
    exact k x d S S' w H v Q hg r h1 q⟩
theorem cal2 {f : Value} {rr : List V → Hp → VK → Prop} {g : D → D → Sto → Option (D × Sto)} (h : CallR X f rr) (k : ∀ (x y d : D) (S S' : Sto) (w : Wd) (H : Hp) (v u : V) (Q : VK), g x y S = some (d, S') → Rep X.K S w H → Dat X.K w x v → Dat X.K w y u → (∀ w' H' z, w.Le w' → Rep X.K S' w' H' → Dat X.K w' d z → Q z H') → rr [v, u] H Q) :
    CalR X f (fun xs S => match xs with | [x, y] => g x y S | _ => none) := ⟨rr, h, fun xs d S S' w H vs Q hg r hd q => by
  match xs, hg with
  | [x, y], hg =>
    obtain ⟨v, u, e, h1, h2⟩ := dats_two hd
    subst e
    exact k x y d S S' w H v u Q hg r h1 h2 q⟩
def len1 (x : D) (S : Sto) : Option (D × Sto) := match x with
  | .str z => if z.length ≤ big then some (.int z.length, S) else none
  | x => (items S x).map fun ds => (.int ds.length, S)
abbrev g1 (g : D → Sto → Option (D × Sto)) : List D → Sto → Option (D × Sto) := fun xs S => match xs with | [x] => g x S | _ => none
abbrev g2 (g : D → D → Sto → Option (D × Sto)) : List D → Sto → Option (D × Sto) := fun xs S => match xs with | [x, y] => g x y S | _ => none
theorem b_len : CalR X (.builtin "len") (g1 len1) := cal1 call_len fun x d S S' w H v Q hg r hx q => by
  unfold len1 at hg
  split at hg
  · rename_i z
    obtain ⟨hz, e⟩ := some_if hg
    cases e
    refine ⟨v, z.length, rfl, ?_, q w H _ Wd.Le.rfl r rfl⟩
    rw [show v = .str z from hx]
    exact ⟨big_line hz, rfl⟩
  · obtain ⟨ds, h1, h2⟩ := Option.map_eq_some_iff.mp hg
    cases h2
    obtain ⟨p, xs, e1, h3, h4⟩ := items_at r hx h1
    subst e1
    refine ⟨_, ds.length, rfl, ?_, q w H _ Wd.Le.rfl r rfl⟩
    rcases h3 with h3 | h3
    · exact .inl ⟨xs, h3, h4.len.symm⟩
    · exact .inr ⟨xs, h3, h4.len.symm⟩
/-- the truths of a list -/
def bls : List D → Option (List Bool)
  | [] => some []
  | .bl b :: ds => (bls ds).map (b :: ·)
  | _ :: _ => none
theorem bls_ok {K : PySem.W.Frag} {w : Wd} : ∀ {ds : List D} {vs : List V} {bs : List Bool}, Dats K w ds vs → bls ds = some bs → vs = bs.map V.bl
  | [], _, bs, h, e => by
    cases e
    exact h
  | .bl b :: ds, _, bs, ⟨v, vs, h1, h2, h3⟩, e => by
    obtain ⟨cs, h4, h5⟩ := Option.map_eq_some_iff.mp (show (bls ds).map (b :: ·) = some bs from e)
    subst h5
    rw [h1, bls_ok h3 h4, show v = .bl b from h2]
    rfl
  | .non :: _, _, _, _, e => by cases e
  | .int _ :: _, _, _, _, e => by cases e
  | .str _ :: _, _, _, _, e => by cases e
  | .tup _ :: _, _, _, _, e => by cases e
  | .lst _ :: _, _, _, _, e => by cases e
  | .scr _ :: _, _, _, _, e => by cases e
  | .ref _ :: _, _, _, _, e => by cases e
  | .fn _ :: _, _, _, _, e => by cases e
  | .ty _ :: _, _, _, _, e => by cases e
def all1 (x : D) (S : Sto) : Option (D × Sto) := match lsOf S x with
  | some ds => (bls ds).map fun bs => (.bl (bs.all id), S)
  | none => none
def any1 (x : D) (S : Sto) : Option (D × Sto) := match lsOf S x with
  | some ds => (bls ds).map fun bs => (.bl (bs.any id), S)
  | none => none
theorem b_all (hc : X.calm = true := by rfl) : CalR X (.builtin "all") (g1 all1) := cal1 (cr_all hc) fun x d S S' w H v Q hg r hx q => by
  unfold all1 at hg
  split at hg
  · rename_i ds hds
    obtain ⟨bs, h1, h2⟩ := Option.map_eq_some_iff.mp hg
    cases h2
    obtain ⟨p, xs, e1, h3, h4⟩ := lsOf_at r hx hds
    subst e1
    exact ⟨p, bs, rfl, by rw [← bls_ok h4 h1]; exact h3, q w H _ Wd.Le.rfl r rfl⟩
  · cases hg
theorem b_any (hc : X.calm = true := by rfl) : CalR X (.builtin "any") (g1 any1) := cal1 (cr_any hc) fun x d S S' w H v Q hg r hx q => by
  unfold any1 at hg
  split at hg
  · rename_i ds hds
    obtain ⟨bs, h1, h2⟩ := Option.map_eq_some_iff.mp hg
    cases h2
    obtain ⟨p, xs, e1, h3, h4⟩ := lsOf_at r hx hds
    subst e1
    exact ⟨p, bs, rfl, by rw [← bls_ok h4 h1]; exact h3, q w H _ Wd.Le.rfl r rfl⟩
  · cases hg
def tuple1 (x : D) (S : Sto) : Option (D × Sto) := match x with
  | .tup ds => some (.tup ds, S)
  | x => (lsOf S x).map fun ds => (.tup ds, S)
theorem b_tuple : CalR X (.type "tuple") (g1 tuple1) := cal1 call_tuple_of fun x d S S' w H v Q hg r hx q => by
  unfold tuple1 at hg
  split at hg
  · cases hg
    have hx' := hx
    obtain ⟨p, xs, e1, h1, h2⟩ := hx
    subst e1
    exact ⟨p, xs, rfl, .inr ⟨r.sqT h1, q w H _ Wd.Le.rfl r hx'⟩⟩
  · obtain ⟨ds, h1, h2⟩ := Option.map_eq_some_iff.mp hg
    cases h2
    obtain ⟨p, xs, e1, h3, h4⟩ := lsOf_at r hx h1
    subst e1
    exact ⟨p, xs, rfl, .inl ⟨h3, fun l hl => new_tup' r hl h4 q⟩⟩
def list1 (x : D) (S : Sto) : Option (D × Sto) := (items S x).map fun ds => (.lst ds, S)
theorem b_list : CalR X (.type "list") (g1 list1) := cal1 call_list_of fun x d S S' w H v Q hg r hx q => by
  obtain ⟨ds, h1, h2⟩ := Option.map_eq_some_iff.mp hg
  cases h2
  obtain ⟨p, xs, e1, h3, h4⟩ := items_at r hx h1
  subst e1
  exact ⟨p, xs, rfl, h3, fun l hl => new_lst' r hl h4 q⟩
/-- a new list, owned -/
def list1O (x : D) (S : Sto) : Option (D × Sto) := (items S x).map fun ds => (.ref S.length, S ++ [.lst ds])
theorem own_lst' {K : PySem.W.Frag} {S : Sto} {w : Wd} {H : Hp} {p : Addr} {ds : List D} {xs : List V} (r : Rep K S w H) (hp : H p = none) (h : Dats K w ds xs) {Q : VK} (q : ∀ w' H' z, w.Le w' → Rep K (S ++ [.lst ds]) w' H' → Dat K w' (.ref S.length) z → Q z H') : Q (.ref p) (upd H p (.lst xs)) := by
  obtain ⟨h1, h2, h3⟩ := own_lst r hp h
  exact q _ _ _ h1 h2 h3
theorem b_listO : CalR X (.type "list") (g1 list1O) := cal1 call_list_of fun x d S S' w H v Q hg r hx q => by
  obtain ⟨ds, h1, h2⟩ := Option.map_eq_some_iff.mp hg
  cases h2
  obtain ⟨p, xs, e1, h3, h4⟩ := items_at r hx h1
  subst e1
  exact ⟨p, xs, rfl, h3, fun l hl => own_lst' r hl h4 q⟩
def str1 (x : D) (S : Sto) : Option (D × Sto) := match x with
  | .int i => if i.natAbs.log2 < 1920 then some (.str (toString i), S) else none
  | .str s => some (.str s, S)
  | _ => none
theorem b_str : CalR X (.type "str") (g1 str1) := cal1 (rr := fun xs H Q => (∃ i, xs = [.int i] ∧ i.natAbs.log2 < 1920 ∧ Q (.str (toString i)) H) ∨ ∃ a, xs = [.str a] ∧ Q (.str a) H) (fun pins s σ H xs us Q I rv q => q.elim (call_str_int pins s σ H xs us Q I rv) (SkE.call_str_str pins s σ H xs us Q I rv)) fun x d S S' w H v Q hg r hx q => by
  unfold str1 at hg
  split at hg
  · rename_i i
    obtain ⟨hz, e⟩ := some_if hg
    cases e
    exact .inl ⟨i, by rw [show v = .int i from hx], hz, q w H _ Wd.Le.rfl r rfl⟩
  · rename_i a
    cases hg
    exact .inr ⟨a, by rw [show v = .str a from hx], q w H _ Wd.Le.rfl r rfl⟩
  · cases hg
def int1 (x : D) (S : Sto) : Option (D × Sto) := match x with
  | .int i => some (.int i, S)
  | .bl b => some (.int (if b then 1 else 0), S)
  | .str s => if s.length ≤ 640 then (PySem.intText? s).map fun n => (.int n, S) else none
  | _ => none
theorem b_int : CalR X (.type "int") (g1 int1) := cal1 (rr := fun xs H Q => ((∃ i, xs = [.int i] ∧ Q (.int i) H) ∨ ∃ k, xs = [.bl k] ∧ Q (.int (if k then 1 else 0)) H) ∨ ∃ a n, xs = [.str a] ∧ PySem.intText? a = some n ∧ a.length ≤ 640 ∧ Q (.int n) H)
    (fun pins s σ H xs us Q I rv q => q.elim (call_int1 pins s σ H xs us Q I rv) (call_int_str pins s σ H xs us Q I rv)) fun x d S S' w H v Q hg r hx q => by
  unfold int1 at hg
  split at hg
  · rename_i i
    cases hg
    exact .inl (.inl ⟨i, by rw [show v = .int i from hx], q w H _ Wd.Le.rfl r rfl⟩)
  · rename_i b
    cases hg
    exact .inl (.inr ⟨b, by rw [show v = .bl b from hx], q w H _ Wd.Le.rfl r rfl⟩)
  · rename_i s
    by_cases hz : s.length ≤ 640
    · rw [if_pos hz] at hg
      obtain ⟨n, h1, h2⟩ := Option.map_eq_some_iff.mp hg
      cases h2
      exact .inr ⟨s, n, by rw [show v = .str s from hx], h1, hz, q w H _ Wd.Le.rfl r rfl⟩
    · rw [if_neg hz] at hg
      cases hg
  · cases hg
def abs1 (x : D) (S : Sto) : Option (D × Sto) := match x with
  | .int i => some (.int (if i < 0 then -i else i), S)
  | _ => none
theorem b_abs : CalR X (.builtin "abs") (g1 abs1) := cal1 call_abs fun x d S S' w H v Q hg r hx q => by
  unfold abs1 at hg
  split at hg
  · rename_i i
    cases hg
    exact ⟨i, by rw [show v = .int i from hx], q w H _ Wd.Le.rfl r rfl⟩
  · cases hg
def min2 (x y : D) (S : Sto) : Option (D × Sto) := match x, y with
  | .int i, .int j => some (.int (if j < i then j else i), S)
  | _, _ => none
def max2 (x y : D) (S : Sto) : Option (D × Sto) := match x, y with
  | .int i, .int j => some (.int (if j > i then j else i), S)
  | _, _ => none
theorem b_min2 (hc : X.calm = true := by rfl) : CalR X (.builtin "min") (g2 min2) := cal2 (call_min2 hc) fun x y d S S' w H v u Q hg r hx hy q => by
  unfold min2 at hg
  split at hg
  · rename_i i j
    cases hg
    exact ⟨i, j, by rw [show v = .int i from hx, show u = .int j from hy], q w H _ Wd.Le.rfl r rfl⟩
  · cases hg
theorem b_max2 (hc : X.calm = true := by rfl) : CalR X (.builtin "max") (g2 max2) := cal2 (call_max2 hc) fun x y d S S' w H v u Q hg r hx hy q => by
  unfold max2 at hg
  split at hg
  · rename_i i j
    cases hg
    exact ⟨i, j, by rw [show v = .int i from hx, show u = .int j from hy], q w H _ Wd.Le.rfl r rfl⟩
  · cases hg
end
end Cw

set_option maxRecDepth 100000
set_option maxHeartbeats 2000000
set_option linter.all false
/-! List comprehensions; methods of texts and lists; f-strings; isinstance; repr. -/
namespace Cw
open PySem PySem.Spec PyProof.Rows L2

/-! ### comprehensions -/
def WF : WX := fun _ _ _ _ => False
def wipeD (δ : Env) : List Nat → Env
  | [] => δ
  | v :: vs => (wipeD δ vs).set v none
theorem wipe_env {K : PySem.W.Frag} {w : Wd} {σ : L2.St} {δ : Env} (h : EnvOk K w σ δ) : ∀ vs, EnvOk K w (wipe σ vs) (wipeD δ vs)
  | [] => h
  | v :: vs => by
    have ih := wipe_env h vs
    refine ⟨by show ((wipe σ vs).set v none).length = ((wipeD δ vs).set v none).length; rw [List.length_set, List.length_set]; exact ih.1, fun i d e => ?_⟩
    have e' : ((wipeD δ vs).set v none)[i]? = some (some d) := e
    by_cases hi : v = i
    · subst hi
      by_cases hl : v < (wipeD δ vs).length
      · rw [List.getElem?_set_self hl] at e'
        cases e'
      · rw [List.getElem?_eq_none (by rw [List.length_set]; omega)] at e'
        cases e'
    · rw [List.getElem?_set_ne hi] at e'
      obtain ⟨u, h1, h2⟩ := ih.2 i d e'
      exact ⟨u, by show ((wipe σ vs).set v none)[i]? = _; rw [List.getElem?_set_ne hi]; exact h1, h2⟩
theorem wipe_at (σ : L2.St) (i : Nat) : ∀ vs : List Nat, (wipe σ vs)[i]? = if i ∈ vs then (if i < σ.length then some none else none) else σ[i]?
  | [] => by simp [wipe]
  | v :: vs => by
    have ih := wipe_at σ i vs
    show ((wipe σ vs).set v none)[i]? = _
    by_cases hv : v = i
    · subst hv
      rw [if_pos List.mem_cons_self]
      by_cases hl : v < σ.length
      · rw [if_pos hl, List.getElem?_set_self (by rw [wipe_length]; exact hl)]
      · rw [if_neg hl, List.getElem?_eq_none (by rw [List.length_set, wipe_length]; omega)]
    · rw [List.getElem?_set_ne hv, ih]
      by_cases hm : i ∈ vs
      · rw [if_pos hm, if_pos (List.mem_cons_of_mem _ hm)]
      · rw [if_neg hm, if_neg (by simp only [List.mem_cons, not_or]; exact ⟨fun q => hv q.symm, hm⟩)]
theorem wipe_but {ws vs : List Nat} {σ σ' : L2.St} (h : But ws (wipe σ vs) σ') (k : ∀ i ∈ ws, i ∈ vs) : wipe σ' vs = wipe σ vs := by
  have hl : σ'.length = σ.length := h.1.trans (wipe_length σ vs)
  refine List.ext_getElem? fun i => ?_
  rw [wipe_at σ' i vs, wipe_at σ i vs, hl]
  by_cases hm : i ∈ vs
  · rw [if_pos hm, if_pos hm]
  · rw [if_neg hm, if_neg hm, h.2 i fun q => hm (k i q), wipe_at σ i vs, if_neg hm]
/-- where nothing may be raised -/
def bndL {α β : Type} (r : Option (Out α)) (f : α → Sto → Option (Out β)) : Option (Out β) := match r with
  | some (.ok a S) => f a S
  | _ => none
@[simp] theorem bndL_ok {α β : Type} (a : α) (S : Sto) (f : α → Sto → Option (Out β)) : bndL (some (.ok a S)) f = f a S := rfl
def lcD (vs : List Nat) (G : DG) (T : DT) (A : DE) : List D → Env → Sto → List D → Option (Out (List D))
  | [], _, S, acc => some (.ok acc S)
  | d :: ds, δ, S, acc => match G d (wipeD δ vs) S with
    | none => none
    | some δ1 => bndL (T δ1 S) fun b S1 => if b = true then bndL (A δ1 S1) fun y S2 => if acc.length < big then lcD vs G T A ds δ S2 (acc ++ [y]) else none
      else lcD vs G T A ds δ S1 acc
def dLc (I : DI) (vs : List Nat) (G : DG) (T : DT) (A : DE) : DE := fun δ S => bnd (I δ S) fun ds S1 => bnd (lcD vs G T A ds δ S1 []) fun xs S2 => some (.ok (.lst xs) S2)
/-- the same, the list owned -/
def dLcO (I : DI) (vs : List Nat) (G : DG) (T : DT) (A : DE) : DE := fun δ S => bnd (I δ S) fun ds S1 => bnd (lcD vs G T A ds δ S1 []) fun xs S2 => some (.ok (.ref S2.length) (S2 ++ [.lst xs]))
theorem Po.some {α : Type} {K : PySem.W.Frag} {W : WX} {σ : L2.St} {w : Wd} {r : Option (Out α)} {R : α → Sto → Wd → Hp → Prop} (h : Po K W σ w r R) : ∃ o, r = some o := by
  cases r with
  | none => exact h.elim
  | some o => exact ⟨o, rfl⟩
theorem bndL_some {α β : Type} {r : Option (Out α)} {f : α → Sto → Option (Out β)} {o : Out β} (h : bndL r f = some o) : ∃ a S, r = some (.ok a S) ∧ f a S = some o := by
  match r, h with
  | some (.ok a S), h => exact ⟨a, S, rfl, h⟩
/-- the framed object is owned from now on -/
def Wd.adopt (w : Wd) (p : Addr) (F : Hp) : Wd := { w with a := fun k => if k = w.n then p else w.a k, n := w.n + 1, F := F }
theorem Rep.adopt {K : PySem.W.Frag} {S : Sto} {w : Wd} {H : Hp} {p : Addr} (r : Rep K S w H) {xs : List V} {ds : List D} (hp : w.F p = some (.lst xs)) (hd : Dats K w ds xs) {F : Hp} (hF : ∀ b, b ≠ p → w.F b = F b) (h0 : F p = none) : Rep K (S ++ [.lst ds]) (w.adopt p F) H := by
  obtain ⟨h1, h2, h3⟩ := r.frm p _ hp
  have low : ∀ j, j < w.n → (w.adopt p F).a j = w.a j := fun j hj => if_neg (Nat.ne_of_lt hj)
  have top : (w.adopt p F).a w.n = p := if_pos rfl
  have kn : w.Kn (w.adopt p F) := ⟨fun _ _ e => e, Nat.le_succ _, low⟩
  refine ⟨r.sub, by show w.n + 1 = _; rw [List.length_append, r.len]; rfl, fun j ob e => ?_, fun i j hi hj e => ?_, fun b u e => ?_⟩
  · by_cases hj : j < S.length
    · rw [List.getElem?_append_left hj] at e
      obtain ⟨h4, h5⟩ := r.obs j ob e
      rw [low j (by rw [r.len]; exact hj)]
      exact ⟨h4, h5.kn kn rfl⟩
    · have hj2 : j = S.length := by
        have := (List.getElem?_eq_some_iff.mp e).1
        rw [List.length_append, List.length_singleton] at this
        omega
      subst hj2
      rw [List.getElem?_append_right (Nat.le_refl _), Nat.sub_self] at e
      have e' : Ob.lst ds = ob := by simpa using e
      subst e'
      rw [← r.len, top]
      exact ⟨h2, xs, h1, hd.kn kn⟩
  · have hi' : i < w.n + 1 := hi
    have hj' : j < w.n + 1 := hj
    by_cases c1 : i = w.n
    · by_cases c2 : j = w.n
      · rw [c1, c2]
      · have hj3 : j < w.n := by omega
        rw [c1, top, low j hj3] at e
        exact absurd e.symm (h3 j hj3)
    · have hi3 : i < w.n := by omega
      by_cases c2 : j = w.n
      · rw [c2, top, low i hi3] at e
        exact absurd e (h3 i hi3)
      · have hj3 : j < w.n := by omega
        rw [low i hi3, low j hj3] at e
        exact r.inj i j hi3 hj3 e
  · have e' : F b = some u := e
    have hb : b ≠ p := fun q => by
      rw [q, h0] at e'
      cases e'
    obtain ⟨h4, h5, h6⟩ := r.frm b u ((hF b hb).trans e')
    refine ⟨h4, h5, fun j hj => ?_⟩
    have hj' : j < w.n + 1 := hj
    by_cases c1 : j = w.n
    · rw [c1, top]
      exact hb.symm
    · rw [low j (by omega)]
      exact h6 j (by omega)
/-- the loop of a comprehension, behind it what the list becomes -/
theorem lc_run {K : PySem.W.Frag} {W : WX} {σ : L2.St} {I : DI} {vs ws : List Nat} {G : DG} {T : DT} {A : DE} {fin : List D → Sto → Option (Out D)} {Q : VK} (hw : ∀ i ∈ ws, i ∈ vs)
    (hfin : ∀ (acc : List D) (S' : Sto) (w1 w' : Wd) (H' : Hp) (p : Addr) (xs : List V), w1.Kn w' → w'.F = upd w1.F p (.lst xs) → w1.F p = none → w1.H p = none → Rep K S' w' H' → Dats K w' acc xs → Po K W σ w1 (fin acc S') (Got K Q) → Q (.ref p) H')
    {H : Hp} (h : TEv K W (fun δ S => bnd (I δ S) fun ds S1 => bnd (lcD vs G T A ds δ S1 []) fin) σ H Q) : tLc (TIv K W I) (TGv K ws G) (TTv K WF T) (TEv K WF A) vs σ H Q := by
  obtain ⟨δ, S, w, r, he, p⟩ := h
  refine ⟨δ, S, w, r, he, p.bnd.mono fun ds S1 w1 H1 e1 r1 p1 J hJ p hp => ?_⟩
  have pH : w1.H p = none := r1.free hp
  have pF : w1.F p = none := by
    cases q : w1.F p with
    | none => rfl
    | some o =>
      have := (r1.frm p o q).1
      rw [hp] at this
      cases this
  have kn1 : w1.Kn (w1.frame p (.lst [])) := ⟨fun _ _ e => e, Nat.le_refl _, fun _ _ => rfl⟩
  refine ⟨fun i m H' => m = ds.length - i ∧ ∃ acc xs S' w', w1.Kn w' ∧ w'.F = upd w1.F p (.lst xs) ∧ Rep K S' w' H' ∧ Dats K w' acc xs ∧ Po K W σ w1 (bnd (lcD vs G T A (ds.drop i) δ S' acc) fin) (Got K Q), ⟨_, rfl, [], [], S1, _, kn1, rfl, r1.frame hp _, Dats.nil, p1⟩, ?_⟩
  rintro i m H' ⟨rfl, acc, xs, S', w', kn, hF, r', hx, p'⟩
  obtain ⟨hgo, hst⟩ := hJ i S' w' H' kn r'
  cases hd : ds[i]? with
  | none =>
    have hi : ds.length ≤ i := List.getElem?_eq_none_iff.mp hd
    rw [List.drop_of_length_le hi] at p'
    exact .inl ⟨hst hi, hfin acc S' w1 w' H' p xs kn hF pF pH r' hx p'⟩
  | some d =>
    have hi : i < ds.length := (List.getElem?_eq_some_iff.mp hd).1
    obtain ⟨g1, g2⟩ := hgo d hd
    refine .inr ⟨g1, fun H2 => ∃ acc xs S' w', w1.Kn w' ∧ w'.F = upd w1.F p (.lst xs) ∧ Rep K S' w' H2 ∧ Dats K w' acc xs ∧ Po K W σ w1 (bnd (lcD vs G T A (ds.drop (i + 1)) δ S' acc) fin) (Got K Q), fun H2 h2 => ⟨ds.length - (i + 1), by omega, rfl, h2⟩, fun x H2 y => ?_⟩
    obtain ⟨w2, e2, r2, hx2⟩ := g2 x H2 y
    rw [drop_cons hd] at p'
    have p2 : Po K W σ w1 (bnd (match G d (wipeD δ vs) S' with
      | none => none
      | some δ1 => bndL (T δ1 S') fun b S1 => if b = true then bndL (A δ1 S1) fun y S2 => if acc.length < big then lcD vs G T A (ds.drop (i + 1)) δ S2 (acc ++ [y]) else none
        else lcD vs G T A (ds.drop (i + 1)) δ S1 acc) fin) (Got K Q) := p'
    cases q : G d (wipeD δ vs) S' with
    | none =>
      rw [q] at p2
      exact p2.elim
    | some δ1 =>
      rw [q] at p2
      have he2 : EnvOk K w2 (wipe σ vs) (wipeD δ vs) := wipe_env ((he.kn e1.kn).kn (⟨fun b o e => e2.h b o (kn.h b o e), Nat.le_trans kn.n e2.n, fun k hk => (e2.a k (Nat.lt_of_lt_of_le hk kn.n)).trans (kn.a k hk)⟩ : w1.Kn w2)) vs
      refine ⟨d, wipeD δ vs, S', w2, δ1, r2, he2, hx2, q, fun σ3 w3 H3 e3 r3 he3 hbut => ⟨wipe_but hbut hw, ?_⟩⟩
      have p3 : Po K W σ w1 (bnd (bndL (T δ1 S') fun b S1 => if b = true then bndL (A δ1 S1) fun y S2 => if acc.length < big then lcD vs G T A (ds.drop (i + 1)) δ S2 (acc ++ [y]) else none
        else lcD vs G T A (ds.drop (i + 1)) δ S1 acc) fin) (Got K Q) := p2
      cases qT : T δ1 S' with
      | none =>
        rw [qT] at p3
        exact p3.elim
      | some oT =>
        cases oT with
        | exc x S9 =>
          rw [qT] at p3
          exact p3.elim
        | ok b S4 =>
          rw [qT, bndL_ok] at p3
          refine ⟨δ1, S', w3, r3, he3, ?_⟩
          rw [qT]
          refine fun w4 H4 e4 r4 => ?_
          have kn4 : w1.Kn w4 := ⟨fun b o e => e4.h b o (e3.h b o (e2.h b o (kn.h b o e))), Nat.le_trans kn.n (Nat.le_trans e2.n (Nat.le_trans e3.n e4.n)), fun k hk => by
            have h1 := Nat.lt_of_lt_of_le hk kn.n
            have h2 := Nat.lt_of_lt_of_le h1 e2.n
            have h3 := Nat.lt_of_lt_of_le h2 e3.n
            exact (e4.a k h3).trans ((e3.a k h2).trans ((e2.a k h1).trans (kn.a k hk)))⟩
          have F4 : w4.F = upd w1.F p (.lst xs) := e4.f.trans (e3.f.trans (e2.f.trans hF))
          cases b with
          | false =>
            rw [if_neg Bool.false_ne_true] at p3
            exact iteF ⟨acc, xs, S4, w4, kn4, F4, r4, ((hx.le e2).le e3).le e4, p3⟩
          | true =>
            rw [if_pos rfl] at p3
            refine iteT ⟨δ1, S4, w4, r4, he3.le e4, ?_⟩
            cases qA : A δ1 S4 with
            | none =>
              rw [qA] at p3
              exact p3.elim
            | some oA =>
              cases oA with
              | exc x S9 =>
                rw [qA] at p3
                exact p3.elim
              | ok y2 S5 =>
                rw [qA, bndL_ok] at p3
                by_cases hl : acc.length < big
                · rw [if_pos hl] at p3
                  intro w5 H5 e5 r5 v hv
                  have F5 : w5.F p = some (.lst xs) := by rw [e5.f, F4, upd_same]
                  refine ⟨xs, (r5.frm p _ F5).1, big_lt (by rw [hx.len]; exact hl), acc ++ [y2], xs ++ [v], S5, w5.frame p (.lst (xs ++ [v])), ⟨fun b o e => e5.h b o (kn4.h b o e), Nat.le_trans kn4.n e5.n, fun k hk => (e5.a k (Nat.lt_of_lt_of_le hk kn4.n)).trans (kn4.a k hk)⟩, ?_, r5.framed F5, ?_, p3⟩
                  · show upd w5.F p _ = _
                    rw [e5.f, F4, upd_upd]
                  · have kf : w5.Kn (w5.frame p (.lst (xs ++ [v]))) := ⟨fun _ _ e => e, Nat.le_refl _, fun _ _ => rfl⟩
                    exact (((((hx.le e2).le e3).le e4).le e5).append (Dats.cons hv Dats.nil)).kn kf
                · rw [if_neg hl] at p3
                  exact p3.elim
theorem fin_lst {K : PySem.W.Frag} {W : WX} {σ : L2.St} {Q : VK} : ∀ (acc : List D) (S' : Sto) (w1 w' : Wd) (H' : Hp) (p : Addr) (xs : List V), w1.Kn w' → w'.F = upd w1.F p (.lst xs) → w1.F p = none → w1.H p = none → Rep K S' w' H' → Dats K w' acc xs →
    Po K W σ w1 (some (.ok (.lst acc) S')) (Got K Q) → Q (.ref p) H' := fun acc S' w1 w' H' p xs kn hF pF pH r' hx po => by
  have F1 : w'.F p = some (.lst xs) := by rw [hF, upd_same]
  have h2 := (r'.frm p _ F1).2.1
  refine po (w'.thaw p (.lst xs) w1.F) H' ⟨fun b o e => ?_, kn.n, kn.a, rfl⟩ (r'.thaw F1 (fun b hb => by rw [hF, upd_ne hb]) pF) _ ⟨p, xs, rfl, ?_, ?_⟩
  · show upd w'.H p _ b = some o
    rw [upd_ne (ne_of_none e pH)]
    exact kn.h b o e
  · show upd w'.H p _ p = _
    rw [upd_same]
  · refine Dats.kn (w := w') (w' := w'.thaw p (.lst xs) w1.F) ⟨fun b o e => ?_, Nat.le_refl _, fun _ _ => rfl⟩ hx
    show upd w'.H p _ b = some o
    rw [upd_ne (ne_of_none e h2)]
    exact e
theorem fin_own {K : PySem.W.Frag} {W : WX} {σ : L2.St} {Q : VK} : ∀ (acc : List D) (S' : Sto) (w1 w' : Wd) (H' : Hp) (p : Addr) (xs : List V), w1.Kn w' → w'.F = upd w1.F p (.lst xs) → w1.F p = none → w1.H p = none → Rep K S' w' H' → Dats K w' acc xs →
    Po K W σ w1 (some (.ok (.ref S'.length) (S' ++ [.lst acc]))) (Got K Q) → Q (.ref p) H' := fun acc S' w1 w' H' p xs kn hF pF pH r' hx po => by
  have F1 : w'.F p = some (.lst xs) := by rw [hF, upd_same]
  refine po (w'.adopt p w1.F) H' ⟨kn.h, Nat.le_trans kn.n (Nat.le_succ _), fun k hk => ?_, rfl⟩ (r'.adopt F1 hx (fun b hb => by rw [hF, upd_ne hb]) pF) _ ⟨?_, ?_⟩
  · show (if k = w'.n then p else w'.a k) = w1.a k
    rw [if_neg (Nat.ne_of_lt (Nat.lt_of_lt_of_le hk kn.n))]
    exact kn.a k hk
  · show V.ref p = V.ref (if S'.length = w'.n then p else w'.a S'.length)
    rw [if_pos r'.len.symm]
  · show S'.length < w'.n + 1
    rw [r'.len]
    exact Nat.lt_succ_self _
section
variable {X : Cx} {W : WX} {pos : Pos} {k : Nat} {a b c e : Expr} {es : List Expr} {A B C : DE} {T : DA}
/-- a clause's tests -/
structure Tsv (X : Cx) (W : WX) (ifs : List Expr) (A : DT) : Prop where
  pts : PTs X ifs (TTv X.K W A)
def tYesD : DT := fun _ S => some (.ok true S)
theorem tsv_nil : Tsv X W [] tYesD := ⟨⟨fun pins s σ H Q I ⟨δ, S, w, r, he, p⟩ => pts_nil.run pins s σ H Q I (p w H Wd.Le.rfl r)⟩⟩
theorem tsv_one {A : DT} (h : Tv X W c A) : Tsv X W [c] A := ⟨pts_one h.pt⟩
theorem ev_lc {elt tg iter : Expr} {ifs : List Expr} {scope : Scope} {own : List (Str × Nat)} {I : DI} {ws : List Nat} {G : DG} {T : DT} (hc : X.calm = true) (hN : X.N.Nodup) (hi : Iv X W tg iter I) (ok : BlkOk X.N X.env.scope scope own)
    (hg : ∀ (s : Shared) (H : Hp) (C : Addr) (cl : List (Str × Addr)) (fp : List Addr), Gv (X.blk s H scope (compEnvC scope cl C X.env) fp) tg ws G) (ht : ∀ (s : Shared) (H : Hp) (C : Addr) (cl : List (Str × Addr)) (fp : List Addr), Tsv (X.blk s H scope (compEnvC scope cl C X.env) fp) WF ifs T)
    (he : ∀ (s : Shared) (H : Hp) (C : Addr) (cl : List (Str × Addr)) (fp : List Addr), Ev (X.blk s H scope (compEnvC scope cl C X.env) fp) WF elt A) (hs : ∀ x, foldedSetIterable iter X.env x = pure x := by intro _; rfl) (hw : ∀ i ∈ ws, i ∈ own.map (·.2) := by decide) :
    Ev X W (.ListComp elt [⟨tg, iter, ifs, 0⟩] scope pos) (dLc I (own.map (·.2)) G T A) :=
  ⟨pe_imp (pe_lc hc hN hi.pi ok (fun s H C cl fp => (hg s H C cl fp).pg) (fun s H C cl fp => (ht s H C cl fp).pts) (fun s H C cl fp => (he s H C cl fp).pe) hs) fun σ H Q h => lc_run hw fin_lst h⟩
theorem ev_lcO {elt tg iter : Expr} {ifs : List Expr} {scope : Scope} {own : List (Str × Nat)} {I : DI} {ws : List Nat} {G : DG} {T : DT} (hc : X.calm = true) (hN : X.N.Nodup) (hi : Iv X W tg iter I) (ok : BlkOk X.N X.env.scope scope own)
    (hg : ∀ (s : Shared) (H : Hp) (C : Addr) (cl : List (Str × Addr)) (fp : List Addr), Gv (X.blk s H scope (compEnvC scope cl C X.env) fp) tg ws G) (ht : ∀ (s : Shared) (H : Hp) (C : Addr) (cl : List (Str × Addr)) (fp : List Addr), Tsv (X.blk s H scope (compEnvC scope cl C X.env) fp) WF ifs T)
    (he : ∀ (s : Shared) (H : Hp) (C : Addr) (cl : List (Str × Addr)) (fp : List Addr), Ev (X.blk s H scope (compEnvC scope cl C X.env) fp) WF elt A) (hs : ∀ x, foldedSetIterable iter X.env x = pure x := by intro _; rfl) (hw : ∀ i ∈ ws, i ∈ own.map (·.2) := by decide) :
    Ev X W (.ListComp elt [⟨tg, iter, ifs, 0⟩] scope pos) (dLcO I (own.map (·.2)) G T A) :=
  ⟨pe_imp (pe_lc hc hN hi.pi ok (fun s H C cl fp => (hg s H C cl fp).pg) (fun s H C cl fp => (ht s H C cl fp).pts) (fun s H C cl fp => (he s H C cl fp).pe) hs) fun σ H Q h => lc_run hw fin_own h⟩
/-- y = [..] on one line, y a local -/
theorem sv_setLc {i : Nat} {y : Str} {py spos : Pos} {elt tg iter : Expr} {ifs : List Expr} {scope : Scope} {own : List (Str × Nat)} {I : DI} {ws : List Nat} {G : DG} {T : DT} (hc : X.calm = true) (hN : X.N.Nodup) (hi : Iv X W tg iter I) (ok : BlkOk X.N X.env.scope scope own)
    (hg : ∀ (s : Shared) (H : Hp) (C : Addr) (cl : List (Str × Addr)) (fp : List Addr), Gv (X.blk s H scope (compEnvC scope cl C X.env) fp) tg ws G) (ht : ∀ (s : Shared) (H : Hp) (C : Addr) (cl : List (Str × Addr)) (fp : List Addr), Tsv (X.blk s H scope (compEnvC scope cl C X.env) fp) WF ifs T)
    (he : ∀ (s : Shared) (H : Hp) (C : Addr) (cl : List (Str × Addr)) (fp : List Addr), Ev (X.blk s H scope (compEnvC scope cl C X.env) fp) WF elt A) (hsw : swapsWith (.ListComp elt [⟨tg, iter, ifs, 0⟩] scope pos) (some (.Name y py)) spos.line X.env = pure true)
    (hy : X.N[i]? = some y := by rfl) (hyl : X.env.scope.names.lookup y = some .local := by rfl) (hs : ∀ x, foldedSetIterable iter X.env x = pure x := by intro _; rfl) (hw : ∀ i ∈ ws, i ∈ own.map (·.2) := by decide) :
    Sv X W (.Assign [.Name y py] (.ListComp elt [⟨tg, iter, ifs, 0⟩] scope pos) spos) (sAsg (dLc I (own.map (·.2)) G T A) (gNm i)) :=
  ⟨ps_imp (ps_setLc (i := i) hc hN hy hyl hsw hi.pi ok (fun s H C cl fp => (hg s H C cl fp).pg) (fun s H C cl fp => (ht s H C cl fp).pts) (fun s H C cl fp => (he s H C cl fp).pe) hs) fun D σ H h => lc_run hw fin_lst (asg_ok (ws := [i]) gName_ok D σ H h)⟩
theorem sv_setLcO {i : Nat} {y : Str} {py spos : Pos} {elt tg iter : Expr} {ifs : List Expr} {scope : Scope} {own : List (Str × Nat)} {I : DI} {ws : List Nat} {G : DG} {T : DT} (hc : X.calm = true) (hN : X.N.Nodup) (hi : Iv X W tg iter I) (ok : BlkOk X.N X.env.scope scope own)
    (hg : ∀ (s : Shared) (H : Hp) (C : Addr) (cl : List (Str × Addr)) (fp : List Addr), Gv (X.blk s H scope (compEnvC scope cl C X.env) fp) tg ws G) (ht : ∀ (s : Shared) (H : Hp) (C : Addr) (cl : List (Str × Addr)) (fp : List Addr), Tsv (X.blk s H scope (compEnvC scope cl C X.env) fp) WF ifs T)
    (he : ∀ (s : Shared) (H : Hp) (C : Addr) (cl : List (Str × Addr)) (fp : List Addr), Ev (X.blk s H scope (compEnvC scope cl C X.env) fp) WF elt A) (hsw : swapsWith (.ListComp elt [⟨tg, iter, ifs, 0⟩] scope pos) (some (.Name y py)) spos.line X.env = pure true)
    (hy : X.N[i]? = some y := by rfl) (hyl : X.env.scope.names.lookup y = some .local := by rfl) (hs : ∀ x, foldedSetIterable iter X.env x = pure x := by intro _; rfl) (hw : ∀ i ∈ ws, i ∈ own.map (·.2) := by decide) :
    Sv X W (.Assign [.Name y py] (.ListComp elt [⟨tg, iter, ifs, 0⟩] scope pos) spos) (sAsg (dLcO I (own.map (·.2)) G T A) (gNm i)) :=
  ⟨ps_imp (ps_setLc (i := i) hc hN hy hyl hsw hi.pi ok (fun s H C cl fp => (hg s H C cl fp).pg) (fun s H C cl fp => (ht s H C cl fp).pts) (fun s H C cl fp => (he s H C cl fp).pe) hs) fun D σ H h => lc_run hw fin_own (asg_ok (ws := [i]) gName_ok D σ H h)⟩
/-- a comprehension's block is ready for calls, too -/
theorem Rdy.blk {scope : Scope} {cenv : PySem.Env} {s : Shared} {H : Hp} {fp : List Addr} (h : Rdy X W k) : Rdy (X.blk s H scope cenv fp) WF k := ⟨takes0, h.gd, h.rm⟩
theorem Rdy.mono {j : Nat} (h : Rdy X W k) (hj : j ≤ k) : Rdy X W j := ⟨h.tk, h.gd, h.rm.mono hj⟩
end
end Cw

set_option maxRecDepth 100000
set_option maxHeartbeats 2000000
set_option linter.all false
/-! Methods of built-in types; isinstance; texts and enumerate walked. -/
namespace Cw
open PySem PySem.Spec PyProof.Rows L2

/-! ### o.m(..) of built-in types -/
def tyD (S : Sto) (T : String) : D → Bool
  | .str _ => T == "str"
  | .int _ => T == "int"
  | x => match lsOf S x with
    | some _ => T == "list"
    | none => match dicOf S x with
      | some _ => T == "dict"
      | none => false
theorem tyD_ok {K : PySem.W.Frag} {S : Sto} {w : Wd} {H : Hp} {T : String} {x : D} {u : V} (r : Rep K S w H) (hx : Dat K w x u) (h : tyD S T x = true) : tyV K T u H := by
  have two : ∀ x, Dat K w x u → (match lsOf S x with
    | some _ => T == "list"
    | none => match dicOf S x with
      | some _ => T == "dict"
      | none => false) = true → tyV K T u H := fun x hx h => by
    split at h
    · rename_i ds hds
      obtain ⟨p, xs, e1, h3, _⟩ := lsOf_at r hx hds
      subst e1
      exact .inl ⟨eq_of_beq h, xs, h3⟩
    · split at h
      · rename_i ks hks
        obtain ⟨p, xs, e1, h3, _⟩ := dicOf_at r hx hks
        subst e1
        exact .inr (.inr (.inl ⟨eq_of_beq h, .inl ⟨xs, h3⟩⟩))
      · cases h
  cases x with
  | str z =>
    rw [show u = .str z from hx]
    exact eq_of_beq (show (T == "str") = true from h)
  | int z =>
    rw [show u = .int z from hx]
    exact eq_of_beq (show (T == "int") = true from h)
  | _ => exact two _ hx h
/-- a method's rule with what it comes to -/
structure MetR (X : Cx) (id : String) (g : D → List D → Sto → Option (D × Sto)) : Prop where
  ex : ∃ rr : V → List V → Hp → VK → Prop, MtM X id rr ∧ ∀ (x : D) (xs : List D) (d : D) (S S' : Sto) (w : Wd) (H : Hp) (u : V) (vs : List V) (Q : VK), g x xs S = some (d, S') → Rep X.K S w H → Dat X.K w x u → Dats X.K w xs vs → (∀ w' H' z, w.Le w' → Rep X.K S' w' H' → Dat X.K w' d z → Q z H') → rr u vs H Q
def dMt (T : String) (g : D → List D → Sto → Option (D × Sto)) (A : DE) (B : DA) : DE := fun δ S => bnd (A δ S) fun x S1 => if tyD S1 T x = true then bnd (B δ S1) fun xs S2 => upS (g x xs S2) else none
section
variable {X : Cx} {W : WX} {pos apos : Pos} {k : Nat} {o a b c e : Expr} {es : List Expr} {A B C : DE} {L : DA} {id : String} {T : String} {name : Str} {g : D → List D → Sto → Option (D × Sto)}
theorem ev_mt (pa : PlainAttrs T) (slot : Slot T name id) (hm : MetR X id g) (ha : Ev X W o A) (hb : Av X W (e :: es) L) (hty : typeOf (.builtin id) = pure (.type "method_descriptor"))
    (hbase : attributeBase o name X.env (eval o X.env) = eval o X.env := by rfl)
    (hfew : ((backTo pos (starEach (e :: es) X.env)).all (fun x => !x.1) && (backToKw pos (keywordEach [] X.env)).all (fun x => x.1.isSome)
      && decide ((e :: es).length + ([] : List Keyword).length + (if ([] : List Keyword).isEmpty then 0 else 1) < 30)) = true := by rfl)
    (hline : (apos.endLine == pos.line) = true := by rfl) (hs : starEach (e :: es) X.env = (false, eval e X.env) :: starEach es X.env := by rfl) (hplain : (backTo pos (starEach es X.env)).any (·.1) = false := by rfl) :
    Ev X W (.Call (.Attribute o name apos) (e :: es) [] pos) (dMt T g A L) := by
  obtain ⟨rr, h1, h2⟩ := hm.ex
  refine ⟨pe_imp (pe_bm pa slot hty h1 ha.pe hb.pa hbase hfew hline hs hplain) fun σ H Q ⟨δ, S, w, r, he, p⟩ => ⟨δ, S, w, r, he, p.bnd.mono fun x S1 w1 H1 e1 r1 p1 u hu => ?_⟩⟩
  by_cases ht : tyD S1 T x = true
  · rw [if_pos ht] at p1
    refine ⟨tyD_ok r1 hu ht, δ, S1, w1, r1, he.le e1, p1.bnd.mono fun xs S2 w2 H2 e2 r2 p2 vs hvs => ?_⟩
    cases eg : g x xs S2 with
    | none =>
      rw [eg] at p2
      exact p2.elim
    | some q =>
      obtain ⟨d, S3⟩ := q
      rw [eg] at p2
      exact h2 x xs d S2 S3 w2 H2 u vs Q eg r2 (hu.le e2) hvs fun w' H' z e3 r3 hz => p2 w' H' e3 r3 z hz
  · rw [if_neg ht] at p1
    exact p1.elim
def dMt0 (T : String) (g : D → List D → Sto → Option (D × Sto)) (A : DE) : DE := fun δ S => bnd (A δ S) fun x S1 => if tyD S1 T x = true then upS (g x [] S1) else none
theorem ev_mt0 (pa : PlainAttrs T) (slot : Slot T name id) (hm : MetR X id g) (ha : Ev X W o A) (hty : typeOf (.builtin id) = pure (.type "method_descriptor"))
    (hbase : attributeBase o name X.env (eval o X.env) = eval o X.env := by rfl) (hline : (apos.endLine == pos.line) = true := by rfl) : Ev X W (.Call (.Attribute o name apos) [] [] pos) (dMt0 T g A) := by
  obtain ⟨rr, h1, h2⟩ := hm.ex
  refine ⟨pe_imp (pe_bm0 pa slot hty h1 ha.pe hbase hline) fun σ H Q ⟨δ, S, w, r, he, p⟩ => ⟨δ, S, w, r, he, p.bnd.mono fun x S1 w1 H1 e1 r1 p1 u hu => ?_⟩⟩
  by_cases ht : tyD S1 T x = true
  · rw [if_pos ht] at p1
    refine ⟨tyD_ok r1 hu ht, ?_⟩
    cases eg : g x [] S1 with
    | none =>
      rw [eg] at p1
      exact p1.elim
    | some q =>
      obtain ⟨d, S3⟩ := q
      rw [eg] at p1
      exact h2 x [] d S1 S3 w1 H1 u [] Q eg r1 hu Dats.nil fun w' H' z e3 r3 hz => p1 w' H' e3 r3 z hz
  · rw [if_neg ht] at p1
    exact p1.elim
/-- the texts of a list -/
def txs : List D → Option (List Str)
  | [] => some []
  | .str s :: ds => (txs ds).map (s :: ·)
  | _ :: _ => none
theorem strs_ok {K : PySem.W.Frag} {w : Wd} : ∀ {ds : List D} {vs : List V} {ys : List Str}, Dats K w ds vs → txs ds = some ys → vs = ys.map V.str
  | [], _, ys, h, e => by
    cases e
    exact h
  | .str s :: ds, _, ys, ⟨v, vs, h1, h2, h3⟩, e => by
    obtain ⟨cs, h4, h5⟩ := Option.map_eq_some_iff.mp (show (txs ds).map (s :: ·) = some ys from e)
    subst h5
    rw [h1, strs_ok h3 h4, show v = .str s from h2]
    rfl
  | .non :: _, _, _, _, e => by cases e
  | .bl _ :: _, _, _, _, e => by cases e
  | .int _ :: _, _, _, _, e => by cases e
  | .tup _ :: _, _, _, _, e => by cases e
  | .lst _ :: _, _, _, _, e => by cases e
  | .scr _ :: _, _, _, _, e => by cases e
  | .ref _ :: _, _, _, _, e => by cases e
  | .fn _ :: _, _, _, _, e => by cases e
  | .ty _ :: _, _, _, _, e => by cases e
theorem dats_strs {K : PySem.W.Frag} {w : Wd} : ∀ ys : List Str, Dats K w (ys.map D.str) (ys.map V.str)
  | [] => Dats.nil
  | y :: ys => Dats.cons (d := .str y) rfl (dats_strs ys)
def joinV (x : D) (xs : List D) (S : Sto) : Option (D × Sto) := match x, xs with
  | .str a, [y] => match items S y with
    | some ds => match txs ds with
      | some ys => if (ys.map (·.length)).sum + ys.length * a.length ≤ 16777216 then some (.str (Txt.join a ys), S) else none
      | none => none
    | none => none
  | _, _ => none
theorem m_join : MetR X "str.join" joinV := ⟨_, mt_join, fun x xs d S S' w H u vs Q hg r hx hxs q => by
  unfold joinV at hg
  split at hg
  · rename_i a y
    split at hg
    · rename_i ds hds
      split at hg
      · rename_i ys hys
        obtain ⟨hl, e⟩ := some_if hg
        cases e
        obtain ⟨v, e1, h1⟩ := dats_one hxs
        subst e1
        obtain ⟨p, zs, e2, h3, h4⟩ := items_at r h1 hds
        subst e2
        refine ⟨a, p, ys, hx, rfl, ?_, hl, q w H _ Wd.Le.rfl r rfl⟩
        rw [← strs_ok h4 hys]
        exact h3
      · cases hg
    · cases hg
  · cases hg⟩
def splitV (x : D) (xs : List D) (S : Sto) : Option (D × Sto) := match x, xs with
  | .str a, [.str b] => if (b.length == 0) = false ∧ a.length + 2 ≤ big then some (.lst ((Txt.split a b).map D.str), S) else none
  | _, _ => none
theorem m_split : MetR X "str.split" splitV := ⟨_, mt_split, fun x xs d S S' w H u vs Q hg r hx hxs q => by
  unfold splitV at hg
  split at hg
  · rename_i a b
    obtain ⟨hl, e⟩ := some_if hg
    cases e
    obtain ⟨v, e1, h1⟩ := dats_one hxs
    subst e1
    exact ⟨a, b, hx, by rw [show v = .str b from h1], hl.1, big_line hl.2, fun p hp => new_lst' r hp (dats_strs _) q⟩
  · cases hg⟩
def startsV (x : D) (xs : List D) (S : Sto) : Option (D × Sto) := match x, xs with
  | .str a, [.str b] => some (.bl (Txt.startswith a b), S)
  | _, _ => none
theorem m_starts : MetR X "str.startswith" startsV := ⟨_, mt_startswith, fun x xs d S S' w H u vs Q hg r hx hxs q => by
  unfold startsV at hg
  split at hg
  · rename_i a b
    cases hg
    obtain ⟨v, e1, h1⟩ := dats_one hxs
    subst e1
    exact ⟨a, b, hx, by rw [show v = .str b from h1], q w H _ Wd.Le.rfl r rfl⟩
  · cases hg⟩
def partV (x : D) (xs : List D) (S : Sto) : Option (D × Sto) := match x, xs with
  | .str a, [.str b] => if (b.length == 0) = false ∧ a.length ≤ big then some (.tup [.str (Txt.partition a b).1, .str (Txt.partition a b).2.1, .str (Txt.partition a b).2.2], S) else none
  | _, _ => none
theorem m_part : MetR X "str.partition" partV := ⟨_, mt_partition, fun x xs d S S' w H u vs Q hg r hx hxs q => by
  unfold partV at hg
  split at hg
  · rename_i a b
    obtain ⟨hl, e⟩ := some_if hg
    cases e
    obtain ⟨v, e1, h1⟩ := dats_one hxs
    subst e1
    exact ⟨a, b, hx, by rw [show v = .str b from h1], hl.1, big_line hl.2, fun p hp => new_tup' r hp (dats_strs [_, _, _]) q⟩
  · cases hg⟩
/-- the owned list's number and what it holds -/
def ownL (S : Sto) : D → Option (Nat × List D)
  | .ref n => match S[n]? with
    | some (.lst ds) => some (n, ds)
    | _ => none
  | _ => none
theorem ownL_at {K : PySem.W.Frag} {S : Sto} {w : Wd} {H : Hp} {d : D} {v : V} {n : Nat} {ds : List D} (r : Rep K S w H) (hv : Dat K w d v) (h : ownL S d = some (n, ds)) : v = .ref (w.a n) ∧ n < w.n ∧ ∃ xs, H (w.a n) = some (.lst xs) ∧ Dats K w ds xs := by
  cases d with
  | ref m =>
    obtain ⟨e, hn⟩ := hv
    have h0 : (match S[m]? with | some (.lst ds) => some (m, ds) | _ => none) = some (n, ds) := h
    cases q : S[m]? with
    | none => rw [q] at h0; cases h0
    | some o =>
      rw [q] at h0
      obtain ⟨_, h2⟩ := r.obs m o q
      cases o with
      | lst es =>
        cases h0
        obtain ⟨xs, h3, h4⟩ := h2
        exact ⟨e, hn, xs, h3, h4⟩
      | _ => cases h0
  | _ => cases h
theorem wr_lst {K : PySem.W.Frag} {S : Sto} {w : Wd} {H : Hp} {n : Nat} {ds : List D} {xs : List V} {d : D} {z : V} {Q : VK} (r : Rep K S w H) (hn : n < w.n) (h : Dats K w ds xs) (hz : Dat K w d z) (q : ∀ w' H' z, w.Le w' → Rep K (S.set n (.lst ds)) w' H' → Dat K w' d z → Q z H') : Q z (upd H (w.a n) (.lst xs)) :=
  q w _ z Wd.Le.rfl (r.write hn (fun b hb => upd_ne hb) ⟨xs, upd_same, h⟩) hz
def appendV (x : D) (xs : List D) (S : Sto) : Option (D × Sto) := match ownL S x, xs with
  | some (n, ds), [y] => if ds.length < big then some (.non, S.set n (.lst (ds ++ [y]))) else none
  | _, _ => none
theorem m_append : MetR X "list.append" appendV := ⟨_, mt_append, fun x xs d S S' w H u vs Q hg r hx hxs q => by
  unfold appendV at hg
  split at hg
  · rename_i n ds y hn
    obtain ⟨hl, e⟩ := some_if hg
    cases e
    obtain ⟨v, e1, h1⟩ := dats_one hxs
    subst e1
    obtain ⟨e2, h2, zs, h3, h4⟩ := ownL_at r hx hn
    exact ⟨_, zs, v, e2, rfl, h3, big_lt (by rw [h4.len]; exact hl), wr_lst r h2 (h4.append (Dats.cons h1 Dats.nil)) (d := .non) rfl q⟩
  · cases hg⟩
def extendV (x : D) (xs : List D) (S : Sto) : Option (D × Sto) := match ownL S x, xs with
  | some (n, ds), [y] => match lstOf S y with
    | some es => if ds.length + es.length ≤ big then some (.non, S.set n (.lst (ds ++ es))) else none
    | none => none
  | _, _ => none
theorem m_extend : MetR X "list.extend" extendV := ⟨_, mt_extend, fun x xs d S S' w H u vs Q hg r hx hxs q => by
  unfold extendV at hg
  split at hg
  · rename_i n ds y hn
    split at hg
    · rename_i es hes
      obtain ⟨hl, e⟩ := some_if hg
      cases e
      obtain ⟨v, e1, h1⟩ := dats_one hxs
      subst e1
      obtain ⟨e2, h2, zs, h3, h4⟩ := ownL_at r hx hn
      obtain ⟨p, ys, e5, h5, h6⟩ := lstOf_at r h1 hes
      subst e5
      exact ⟨_, p, zs, ys, e2, rfl, h3, h5, big_line (by rw [h4.len, h6.len]; exact hl), wr_lst r h2 (h4.append h6) (d := .non) rfl q⟩
    · cases hg
  · cases hg⟩
def popV (x : D) (xs : List D) (S : Sto) : Option (D × Sto) := match ownL S x, xs with
  | some (n, ds), [.int i] => if isSmall i then (match seqIndex? i ds.length with
    | some k => match ds[k]? with
      | some d => some (d, S.set n (.lst (ds.eraseIdx k)))
      | none => none
    | none => none) else none
  | some (n, ds), [] => match ds[ds.length - 1]? with
    | some d => some (d, S.set n (.lst ds.dropLast))
    | none => none
  | _, _ => none
theorem Dats.dropLast {K : PySem.W.Frag} {w : Wd} {ds : List D} {vs : List V} (h : Dats K w ds vs) : Dats K w ds.dropLast vs.dropLast := by
  rw [List.dropLast_eq_take, List.dropLast_eq_take, h.len]
  exact h.take _
theorem m_pop : MetR X "list.pop" popV := ⟨fun x vs H Q => rPopAt x vs H Q ∨ rPop x vs H Q, fun pins s σ H x xs v us Q I rx rv h => h.elim (mt_popAt pins s σ H x xs v us Q I rx rv) (mt_pop pins s σ H x xs v us Q I rx rv), fun x xs d S S' w H u vs Q hg r hx hxs q => by
  unfold popV at hg
  split at hg
  · rename_i n ds i hn
    obtain ⟨e2, h2, zs, h3, h4⟩ := ownL_at r hx hn
    by_cases hi : isSmall i
    · rw [if_pos hi] at hg
      split at hg
      · rename_i k hk
        split at hg
        · rename_i y hy
          cases hg
          obtain ⟨v, e1, h1⟩ := dats_one hxs
          subst e1
          obtain ⟨z, h5, h6⟩ := h4.get hy
          have a1 := hi.1
          have a2 := hi.2
          exact .inl ⟨_, zs, i, k, z, e2, by rw [show v = .int i from h1], h3, by omega, by omega, by rw [h4.len]; exact hk, h5, wr_lst r h2 (h4.eraseIdx k) h6 q⟩
        · cases hg
      · cases hg
    · rw [if_neg hi] at hg
      cases hg
  · rename_i n ds hn
    obtain ⟨e2, h2, zs, h3, h4⟩ := ownL_at r hx hn
    split at hg
    · rename_i y hy
      cases hg
      obtain ⟨z, h5, h6⟩ := h4.get hy
      exact .inr ⟨_, zs, z, e2, hxs, h3, by rw [h4.len]; exact h5, wr_lst r h2 h4.dropLast h6 q⟩
    · cases hg
  · cases hg⟩

/-! ### isinstance(x, T) -/
theorem ev_ty {x : Str} {n : String} (hg : Gl X x) (hm : X.mg x = none) (hv : bootBuiltins x = some (.type n)) (hn : x ≠ "__name__" := by decide) (hd : (x == ("__debug__" : Str)) = false := by decide) : Ev X W (.Name x pos) (dC (.ty n)) :=
  ⟨pe_imp (pe_bltn (v := .ty n) hg hm hv rfl hn hd) (tev_c fun _ => rfl)⟩
def tyName (S : Sto) : D → Option String
  | .non => some "NoneType"
  | .bl _ => some "bool"
  | .int _ => some "int"
  | .str _ => some "str"
  | .tup _ => some "tuple"
  | .lst _ => some "list"
  | .ref n => match S[n]? with
    | some (.lst _) => some "list"
    | some (.dic _) => some "dict"
    | _ => none
  | _ => none
theorem tyT {K : PySem.W.Frag} {H : Hp} {p : Addr} {xs : List V} (h : SqT K H p xs) : TyX K H (.ref p) (.type "tuple") := by
  rcases h with (h | ⟨o, h⟩) | h
  · exact .base (.tup h)
  · exact .fTuple h
  · obtain ⟨o, its, n, h1, h2, _⟩ := h
    exact .kTuple h1 h2
theorem tyLx {K : PySem.W.Frag} {H : Hp} {p : Addr} {xs : List V} (h : SqL K H p xs) : TyX K H (.ref p) (.type "list") := by
  rcases h with (h | ⟨o, h⟩) | h
  · exact .base (.lst h)
  · exact .base (.frz h)
  · obtain ⟨o, its, n, h1, h2, _⟩ := h
    exact .kList h1 h2
theorem tyName_ok {K : PySem.W.Frag} {S : Sto} {w : Wd} {H : Hp} {x : D} {u : V} {t : String} (r : Rep K S w H) (hx : Dat K w x u) (h : tyName S x = some t) : TyX K H u (.type t) := by
  cases x with
  | non => cases h; rw [show u = .non from hx]; exact .base .non
  | bl b => cases h; rw [show u = .bl b from hx]; exact .base (.bl b)
  | int b => cases h; rw [show u = .int b from hx]; exact .base (.int b)
  | str b => cases h; rw [show u = .str b from hx]; exact .base (.str b)
  | tup ds =>
    cases h
    obtain ⟨p, xs, e, h1, h2⟩ := hx
    subst e
    exact tyT (r.sqT h1)
  | lst ds =>
    cases h
    obtain ⟨p, xs, e, h1, h2⟩ := hx
    subst e
    exact .base (.lst (r.sub _ _ h1))
  | scr ds => cases h
  | ref n =>
    obtain ⟨e, hn⟩ := hx
    subst e
    have h0 : (match S[n]? with | some (.lst _) => some "list" | some (.dic _) => some "dict" | _ => none) = some t := h
    cases q : S[n]? with
    | none => rw [q] at h0; cases h0
    | some o =>
      rw [q] at h0
      obtain ⟨_, h2⟩ := r.obs n o q
      cases o with
      | lst es =>
        cases h0
        obtain ⟨xs, h3, h4⟩ := h2
        exact .base (.lst h3)
      | dic es =>
        cases h0
        obtain ⟨xs, h3, h4⟩ := h2
        exact .base (.dK h3)
      | ins c fs => cases h0
      | exn x => cases h0
      | tab P q => cases h0
      | lam L => cases h0
  | fn x => cases h
  | ty x => cases h
def isiV (x y : D) (S : Sto) : Option (D × Sto) := match y with
  | .ty n => match tyName S x with
    | some t => (kitB t n).map fun b => (.bl b, S)
    | none => none
  | _ => none
theorem b_isi : CalR X (.builtin "isinstance") (g2 isiV) := cal2 call_isi fun x y d S S' w H v u Q hg r hx hy q => by
  unfold isiV at hg
  split at hg
  · rename_i n
    split at hg
    · rename_i t ht
      obtain ⟨b, h1, h2⟩ := Option.map_eq_some_iff.mp hg
      cases h2
      exact ⟨v, u, .type t, .type n, b, rfl, by rw [show u = .ty n from hy]; exact .ty n, tyName_ok r hx ht, kit_ty h1, q w H _ Wd.Le.rfl r rfl⟩
    · cases hg
  · cases hg

/-! ### a text, walked; enumerate -/
def sgn (c : Nat) : D := .str ⟨#[c]⟩
def iStrD (A : DE) : DI := fun δ S => bnd (A δ S) fun d S1 => up (match d with | .str z => some (z.cps.toList.map sgn) | _ => none) S1
theorem walk_s {K : PySem.W.Frag} {z : Str} {w1 : Wd} : WalkD K (Its z) (z.cps.toList.map sgn) w1 := fun i S' w' H' e' r' => by
  refine ⟨fun d hd => ?_, fun hi => by rw [List.length_map, Array.length_toList] at hi; exact hi⟩
  rw [List.getElem?_map, Array.getElem?_toList] at hd
  obtain ⟨c, h1, h2⟩ := Option.map_eq_some_iff.mp hd
  subst h2
  refine ⟨(Array.getElem?_eq_some_iff.mp h1).1, fun x H2 ⟨e2, c2, h3, h4⟩ => ?_⟩
  rw [h1] at h3
  cases h3
  rw [e2]
  exact ⟨w', Wd.Le.rfl, r', h4⟩
theorem iv_str {tg l : Expr} (h : Ev X W l A) : Iv X W tg l (iStrD A) :=
  ⟨pi_imp (pi_str h.pe) fun σ H R ⟨δ, S, w, r, he, p⟩ => ⟨δ, S, w, r, he, p.bnd.mono fun d S1 w1 H1 e1 r1 p1 v hv => by
    obtain ⟨ds, hds, p1⟩ := p1.up r1
    cases d with
    | str z =>
      cases hds
      exact ⟨z, hv, p1 _ walk_s⟩
    | _ => cases hds⟩⟩
end
end Cw

set_option maxRecDepth 100000
set_option maxHeartbeats 2000000
set_option linter.all false
/-! enumerate, with a start; augmented names; dict displays; repr; keyword calls. -/
namespace Cw
open PySem PySem.Spec PyProof.Rows L2

/-! ### enumerate(x, k) over a list -/
def numI (k : Int) (a : Addr) (K : PySem.W.Frag) : It :=
  ⟨fun i H => ∃ (xs : List V) (x : V), SqL K H a xs ∧ xs[i]? = some x, fun i H v H' => ∃ T x, v = .ref T ∧ H T = none ∧ H' = upd H T (.tup [.int (k + (i : Nat)), x]) ∧ ∀ xs, SqL K H a xs → xs[i]? = some x, fun i H => ∃ xs : List V, SqL K H a xs ∧ xs.length ≤ i⟩
theorem turn_num {P : Program} {w : World} {K : PySem.W.Frag} {elts : List Expr} {kk : Nat} {tpos : Pos} (k : Int) (a e j : Addr) (hja : a ≠ j) :
    Turn P w K (.Tuple elts kk tpos) (numI k a K) [e, j] e (fun i h => (∃ old, IsEnum h e j (k + ((i : Nat) : Int)) old) ∧ h.IsListIter j a i ∧ e ≠ j ∧ e ≠ a) where
  mem := List.mem_cons_self
  obj := fun i h st b hb => by
    obtain ⟨⟨old, he⟩, ⟨o, ho, hc, hd⟩, _⟩ := st
    rcases List.mem_cons.mp hb with z | z
    · rw [z]
      exact ⟨_, he, fun v q => nomatch q⟩
    · rw [List.mem_singleton.mp z]
      exact ⟨o, ho, fun v q => by rw [hd] at q; cases q⟩
  keep := fun i h h' ⟨⟨old, he⟩, hi, hn⟩ q => ⟨⟨old, q e List.mem_cons_self _ he⟩, hi.at fun o z => q j (List.mem_cons_of_mem _ List.mem_cons_self) o z, hn⟩
  item := by
    intro X hP hw hK hc i pins s σ H E I hf ⟨⟨old, he⟩, hit, hej, hea⟩ ⟨xs, x, hq, hx⟩
    subst hP hw hK
    obtain ⟨its, rv, pl, hz⟩ := I.list hq
    obtain ⟨u, hu, ru⟩ := rv.get hx
    have lt1 : e < s.heap.objs.size := Heap.lt_size he
    have lt2 : j < s.heap.objs.size := by
      obtain ⟨_, q, _⟩ := hit
      exact Heap.lt_size q
    have hi : i < its.toArray.size := by
      rw [List.size_toArray]
      exact (List.getElem?_eq_some_iff.mp hu).1
    refine wpAny_pyNext_enum_itemC (Draws.list (A := X.A.in1) (I.ok.hd hc) j a hja its.toArray) he ⟨hit, pl.isList⟩ hi hej (by simp [hej, hea]) fun y h' tk hy ho hst hT hsz hk => ?_
    have ey : u = y := by
      have q : its.toArray[i]? = some u := by rw [← Array.getElem?_toList]; exact hu
      rw [q] at hy
      exact Option.some.inj hy
    subst ey
    refine ⟨_, rfl, wpAny_letOwnedTupleGo_enum (s := { s with heap := h', toks := tk + 1 }) ho fun h2 he2 sb => ?_⟩
    have nT : s.heap.objs.size ≠ e := Nat.ne_of_gt lt1
    have hT2 : h2.get? s.heap.objs.size = some { cls := .type "tuple", data := .seq #[.int (k + (i : Nat)) tk, u] } := (sb.2 _ nT).trans hT
    have new : ObjOk X.prog X.w (upd H s.heap.objs.size (.tup [.int (k + (i : Nat)), x])) h2 s.heap.objs.size (.tup [.int (k + (i : Nat)), x]) :=
      ⟨by show 2 ≤ sizeLine; decide, [_, u], .cons ⟨tk, rfl⟩ (.cons ru .nil), ⟨_, hT2, rfl, _, rfl⟩⟩
    have other : ∀ b ob, b ∉ [e, j] → s.heap.get? b = some ob → h2.get? b = some ob := fun b ob hb q => by
      have b1 : b ≠ e := fun z => hb (z ▸ List.mem_cons_self)
      have b2 : b ≠ j := fun z => hb (z ▸ List.mem_cons_of_mem _ List.mem_cons_self)
      exact (sb.2 b b1).trans (hk b ob b1 b2 q)
    refine ⟨.ref s.heap.objs.size, _, I.turnedNew (ch := [e, j]) other hf (Nat.le_refl _) new, rfl, ⟨_, x, rfl, I.hok.fresh (Nat.le_refl _), rfl, fun ys hy => by rw [I.list_inj hy hq]; exact hx⟩, ⟨⟨u, ?_⟩, hst.1.at fun o q => (sb.2 j (Ne.symm hej)).trans q, hej, hea⟩, fun b hb => ?_⟩
    · rw [show k + ((i + 1 : Nat) : Int) = k + (i : Int) + 1 by omega]
      exact he2
    · have hb' : b < s.heap.objs.size := by
        rcases List.mem_cons.mp hb with z | z
        · rw [z]; exact lt1
        · rw [List.mem_singleton.mp z]; exact lt2
      rw [upd_ne (Nat.ne_of_lt hb')]
      exact (hf b hb).1
  done := by
    intro X hP hw hK hc i pins s σ H E I hf ⟨⟨old, he⟩, hit, hej, hea⟩ ⟨xs, hq, hx⟩
    subst hP hw hK
    obtain ⟨its, rv, pl, hz⟩ := I.list hq
    obtain ⟨f0, f1, f2, f3, f4, f5⟩ := hf j (List.mem_cons_of_mem _ List.mem_cons_self)
    have hl := rv.length
    have dn : Draws X.prog X.w X.A.in1 j [j, a] i (fun _ _ => False) (fun m h => m = i ∧ h.IsListIter j a i ∧ h.IsList a its.toArray) :=
      { live := fun _ _ st => let ⟨o, ho, _⟩ := st.2.1; ⟨o, ho⟩
        frame := fun _ _ _ st q => ⟨st.1, st.2.1.at fun o e => q j (by simp) o e, st.2.2.at fun o e => q a (by simp) o e⟩
        item := fun m s Q E hm st _ => absurd hm (by rw [st.1]; exact Nat.lt_irrefl _)
        done := fun s Q E st hE => wpAny_nextOf_list_end (I.ok.hd hc) st.2.1 st.2.2 (by simp; omega) hE }
    exact wpAny_pyNext_enum_endD dn he ⟨rfl, hit, pl.isList⟩ fun h' eb => ⟨rfl, I.turned (t' := s.toks) (fun b o hb q => eb b o hb q) f0 f1 f3 f4 f5⟩
  self := fun A i s Q E ⟨⟨_, he⟩, _⟩ h => wpAny_pyIter_enum he h
def iNum (K : PySem.W.Frag) (ta : TA) : TI := fun σ H R => ta σ H fun vs H1 => ∃ a xs k, vs = [.ref a, .int k] ∧ SqL K H1 a xs ∧ isSmall k ∧ R (numI k a K) H1
section
variable {X : Cx} {W : WX} {pos apos : Pos} {k : Nat} {o a b c e : Expr} {es : List Expr} {A B C : DE} {L : DA}
theorem pi_num {ta : TA} {p tpos : Pos} {elts : List Expr} {kk : Nat} (hg : Gl X "enumerate") (hm : X.mg "enumerate" = none) (ha : PA X [a, b] ta) (hs : starEach [a, b] X.env = [(false, eval a X.env), (false, eval b X.env)] := by rfl) (hs2 : starEach [b] X.env = [(false, eval b X.env)] := by rfl) :
    PI X (.Tuple elts kk tpos) (.Call (.Name "enumerate" p) [a, b] [] pos) (iNum X.K ta) := by
  refine ⟨fun pins s σ H R I h => Call_ (ld_blt I hg hm boot_enumerate (PyProof.Rows.callWith_type1 (thn (ha.run pos pins s σ H _ I h) fun us s1 ⟨vs, H1, I1, r1, l, xs, n, ex, hq, hn, q⟩ => ?_) (by rw [hs, hs2]) (by rw [hs2]; rfl)))⟩
  subst ex
  obtain ⟨u1, u2, rfl, r1, r2⟩ := vals2 r1
  obtain rfl : u1 = Value.ref l := r1
  obtain ⟨t, rfl⟩ : ∃ t, u2 = Value.int n t := r2
  obtain ⟨its, rv, pl, hz⟩ := I1.list hq
  have n1 := hn.1
  have n2 := hn.2
  refine enum_begins (begins_list l its.toArray) pl.isList (by omega) (by omega) fun h' he hit hsz hk => wpAny_pyIter_enum he ?_
  have ll : l < s1.heap.objs.size := by
    obtain ⟨o, q, _⟩ := pl.isList
    exact Heap.lt_size q
  refine ⟨s1.heap.objs.size + 1, [s1.heap.objs.size + 1, s1.heap.objs.size], _, _, H1, rfl, I1.kept (t' := s1.toks) hk, turn_num n l (s1.heap.objs.size + 1) s1.heap.objs.size (Nat.ne_of_lt ll), ⟨⟨.none, by simpa using he⟩, ⟨_, hit, rfl, rfl⟩, Nat.succ_ne_self _, Nat.ne_of_gt (Nat.lt_succ_of_lt ll)⟩, fun b hb => ?_, q⟩
  have hle : s1.heap.objs.size ≤ b := by
    rcases List.mem_cons.mp hb with z | z
    · rw [z]; exact Nat.le_succ _
    · rw [List.mem_singleton.mp z]; exact Nat.le_refl _
  exact I1.fpOk hle (I1.hok.fresh hle)
/-- numbered from k -/
def numd : Int → List D → List D
  | _, [] => []
  | k, d :: ds => .tup [.int k, d] :: numd (k + 1) ds
theorem numd_at : ∀ (k : Int) (ds : List D) (i : Nat), (numd k ds)[i]? = (ds[i]?).map fun d => .tup [.int (k + (i : Nat)), d]
  | k, [], i => by simp [numd]
  | k, d :: ds, 0 => by simp [numd]
  | k, d :: ds, i + 1 => by
    have h := numd_at (k + 1) ds i
    rw [show k + 1 + (i : Int) = k + ((i + 1 : Nat) : Int) by omega] at h
    simpa [numd] using h
theorem numd_len : ∀ (k : Int) (ds : List D), (numd k ds).length = ds.length
  | _, [] => rfl
  | k, d :: ds => by rw [numd, List.length_cons, List.length_cons, numd_len]
/-- a list that stays as it is -/
def stillL : D → Option (List D)
  | .lst ds => some ds
  | .scr ds => some ds
  | _ => none
theorem stillL_at {K : PySem.W.Frag} {w : Wd} {d : D} {v : V} {ds : List D} (hv : Dat K w d v) (h : stillL d = some ds) : ∃ p xs, v = .ref p ∧ SqL K w.H p xs ∧ Dats K w ds xs := by
  cases d with
  | lst es =>
    obtain ⟨p, xs, e, h1, h2⟩ := hv
    cases h
    exact ⟨p, xs, e, SqL.of h1, h2⟩
  | scr es =>
    obtain ⟨p, xs, e, h1, h2⟩ := hv
    cases h
    exact ⟨p, xs, e, h1, h2⟩
  | _ => cases h
theorem walk_num {K : PySem.W.Frag} {k : Int} {a : Addr} {xs : List V} {ds : List D} {w1 : Wd} (hq : SqL K w1.H a xs) (hx : Dats K w1 ds xs) : WalkD K (numI k a K) (numd k ds) w1 := fun i S' w' H' e' r' => by
  have q := r'.sqL (sqL_le e'.h hq)
  refine ⟨fun d hd => ?_, fun hi => ⟨xs, q, by rw [hx.len, ← numd_len k ds]; exact hi⟩⟩
  rw [numd_at] at hd
  obtain ⟨d0, h0, e0⟩ := Option.map_eq_some_iff.mp hd
  obtain ⟨v, h1, h2⟩ := hx.get h0
  refine ⟨⟨xs, v, q, h1⟩, fun x H2 ⟨T, y, ex, hT, eH, hy⟩ => ?_⟩
  have e3 := hy xs q
  rw [h1] at e3
  cases e3
  subst ex eH e0
  obtain ⟨z1, z2, z3⟩ := new_tup (ds := [.int (k + (i : Nat)), d0]) (xs := [.int (k + (i : Nat)), v]) r' hT (Dats.cons (d := .int _) rfl (Dats.cons (h2.kn e') Dats.nil))
  exact ⟨_, z1, z2, z3⟩
def num2 : List D → Option (List D)
  | [x, .int k] => if isSmall k then (stillL x).map (numd k) else none
  | _ => none
def iNumD (A : DA) : DI := fun δ S => bnd (A δ S) fun xs S1 => up (num2 xs) S1
theorem iv_num {p tpos : Pos} {elts : List Expr} {kk : Nat} {T : DA} (hg : Gl X "enumerate") (hm : X.mg "enumerate" = none) (ha : Av X W [a, b] T) (hs : starEach [a, b] X.env = [(false, eval a X.env), (false, eval b X.env)] := by rfl) (hs2 : starEach [b] X.env = [(false, eval b X.env)] := by rfl) :
    Iv X W (.Tuple elts kk tpos) (.Call (.Name "enumerate" p) [a, b] [] pos) (iNumD T) :=
  ⟨pi_imp (pi_num hg hm ha.pa hs hs2) fun σ H R ⟨δ, S, w, r, he, p⟩ => ⟨δ, S, w, r, he, p.bnd.mono fun xs S1 w1 H1 e1 r1 p1 vs hv => by
    obtain ⟨ds, hds, p1⟩ := p1.up r1
    match xs, hds with
    | [x, .int n], hds =>
      have hds' : (if isSmall n then (stillL x).map (numd n) else none) = some ds := hds
      by_cases hj : isSmall n
      · rw [if_pos hj] at hds'
        obtain ⟨es, h1, h2⟩ := Option.map_eq_some_iff.mp hds'
        subst h2
        obtain ⟨v, u, e3, h3, h4⟩ := dats_two hv
        obtain ⟨p, ys, e4, h5, h6⟩ := stillL_at h3 h1
        exact ⟨p, ys, n, by rw [e3, e4, show u = .int n from h4], r1.sqL h5, hj, p1 _ (walk_num h5 h6)⟩
      · rw [if_neg hj] at hds'
        cases hds'⟩⟩
def num1 : List D → Option (List D)
  | [x] => (stillL x).map (numd 0)
  | _ => none
def iNumD0 (A : DA) : DI := fun δ S => bnd (A δ S) fun xs S1 => up (num1 xs) S1
theorem walk_num0 {K : PySem.W.Frag} {a : Addr} {xs : List V} {ds : List D} {w1 : Wd} (hq : SqL K w1.H a xs) (hx : Dats K w1 ds xs) : WalkD K (Ite K a) (numd 0 ds) w1 := fun i S' w' H' e' r' => by
  obtain ⟨h1, h2⟩ := walk_num (k := 0) hq hx i S' w' H' e' r'
  refine ⟨fun d hd => ?_, h2⟩
  obtain ⟨h3, h4⟩ := h1 d hd
  refine ⟨h3, fun x H2 ⟨T, y, ex, hT, eH, hy⟩ => h4 x H2 ⟨T, y, ex, hT, ?_, hy⟩⟩
  rw [eH, Int.zero_add]
theorem iv_num0 {p tpos : Pos} {elts : List Expr} {kk : Nat} {T : DA} (hg : Gl X "enumerate") (hm : X.mg "enumerate" = none) (ha : Av X W [a] T) (hs : starEach [a] X.env = [(false, eval a X.env)] := by rfl) :
    Iv X W (.Tuple elts kk tpos) (.Call (.Name "enumerate" p) [a] [] pos) (iNumD0 T) :=
  ⟨pi_imp (pi_enum hg hm ha.pa hs) fun σ H R ⟨δ, S, w, r, he, p⟩ => ⟨δ, S, w, r, he, p.bnd.mono fun xs S1 w1 H1 e1 r1 p1 vs hv => by
    obtain ⟨ds, hds, p1⟩ := p1.up r1
    match xs, hds with
    | [x], hds =>
      obtain ⟨es, h1, h2⟩ := Option.map_eq_some_iff.mp (show (stillL x).map (numd 0) = some ds from hds)
      subst h2
      obtain ⟨v, e3, h3⟩ := dats_one hv
      obtain ⟨p, ys, e4, h5, h6⟩ := stillL_at h3 h1
      exact ⟨p, ys, by rw [e3, e4], r1.sqL h5, p1 _ (walk_num0 h5 h6)⟩⟩⟩

/-! ### x op= e, x a name -/
def dAug (i : Nat) (g : D → D → Sto → Option (D × Sto)) (A : DE) : DS := fun δ S => match δ[i]? with
  | some (some x) => bndS (A δ S) δ fun y S1 => match g x y S1 with
    | some (z, S2) => some (.nx (δ.set i (some z)) S2)
    | none => none
  | _ => none
theorem sv_aug {i : Nat} {x : Str} {op : Operator} {rr : R2} {g : D → D → Sto → Option (D × Sto)} {pos' : Pos} (hN : X.N.Nodup) (hp : OpR X (inplaceOp op) rr) (hg : OpD X.K rr g) (ha : Ev X W e A) (hi : X.N[i]? = some x := by rfl) (hx : Loc X.env.scope x := by first | exact Or.inl rfl | exact Or.inr rfl)
    (hf : X.fn x = true ∨ X.env.scope.names.lookup x = some .local := by first | exact .inl rfl | exact .inr rfl) : Sv X W (.AugAssign (.Name x pos') op e pos) (dAug i g A) :=
  ⟨ps_imp (ps_aug hN hi hx ha.pe hp hf) fun D σ H ⟨δ, S, w, r, he, p⟩ => by
    unfold dAug at p
    cases q : δ[i]? with
    | none => rw [q] at p; exact p.elim
    | some o =>
      cases o with
      | none => rw [q] at p; exact p.elim
      | some d =>
        rw [q] at p
        obtain ⟨v, h1, h2⟩ := he.2 i d q
        refine ⟨v, h1, δ, S, w, r, he, (PoS.bnd he p).mono fun y S1 w1 H1 e1 r1 p1 u hu => ?_⟩
        cases eg : g d y S1 with
        | none =>
          rw [eg] at p1
          exact p1.elim
        | some q2 =>
          obtain ⟨z, S2⟩ := q2
          rw [eg] at p1
          exact hg d y z S1 S2 w1 H1 v u _ eg r1 (h2.le e1) hu fun w' H' t e2 r2 ht => p1 _ w' H' e2 r2 (((he.le e1).le e2).set i ht)⟩
end
end Cw

set_option maxRecDepth 100000
set_option maxHeartbeats 2000000
set_option linter.all false
/-! In-place +; lists that are owned; repr; dict displays; calls with keywords. -/
namespace Cw
open PySem PySem.Spec PyProof.Rows L2

/-! ### += -/
theorem no_iadd_tuple : typeLookup (.type "tuple") (dunderI "add") = pure none := by
  rw [typeLookup_type, builtinLookup_eq_fast]
  kernel_rfl
section
variable {prog : Program} {w : World} {A : Around} {E : Value → Shared → Prop} {s : Shared}
theorem iadd_tuples {t b : Addr} {vs us : List Value} {Q : Value → Shared → Prop} (ht : IsTup s.heap t vs.toArray) (hb : IsTup s.heap b us.toArray) (h0 : vs = [] → Q (.ref b) s) (h1 : vs ≠ [] → us = [] → Q (.ref t) s)
    (h2 : vs ≠ [] → us ≠ [] → Q (.ref s.heap.objs.size) { s with heap := s.heap.push { cls := .type "tuple", data := .seq (vs ++ us).toArray } }) (hsz : vs.length + us.length ≤ sizeLine) : wpAny (model prog w) A (inplaceOp .Add (.ref t) (.ref b)) Q E s := by
  obtain ⟨⟨c1, d1, e1, s1⟩, o1, q1, n1, r1⟩ := id ht
  obtain ⟨⟨c2, d2, e2, s2⟩, o2, q2, n2, r2⟩ := id hb
  simp only at q1 r1 q2 r2
  subst q1 r1 q2 r2
  refine inplaceOp_concat ⟨_, o1, rfl⟩ ⟨_, o2, rfl⟩ no_iadd_tuple noFill_tuple_add seq_tuple_add ?_
  by_cases hv : vs = []
  · exact call_meets PySem.F.slot_tuple_add ⟨_, o1, rfl⟩ PySem.F.entry_tuple_add (PySem.F.args_tuple_add_2 _ _) (tuple_addW0 t b vs.toArray us.toArray n1 n2 d1 d2 s1 s2 (by simp [hv])) ⟨o1, o2, h0 hv⟩
  · by_cases hu : us = []
    · exact call_meets PySem.F.slot_tuple_add ⟨_, o1, rfl⟩ PySem.F.entry_tuple_add (PySem.F.args_tuple_add_2 _ _) (tuple_addW1 t b vs.toArray us.toArray n1 n2 d1 d2 s1 s2 (by simpa using hv) (by simp [hu])) ⟨o1, o2, h1 hv hu⟩
    · refine call_meets PySem.F.slot_tuple_add ⟨_, o1, rfl⟩ PySem.F.entry_tuple_add (PySem.F.args_tuple_add_2 _ _)
        (tuple_addW2 t b vs.toArray us.toArray n1 n2 d1 d2 s1 s2 (by simpa using hv) (by simpa using hu) (by rw [List.size_toArray, List.size_toArray]; exact hsz)) ⟨o1, o2, ?_⟩
      rw [show vs.toArray ++ us.toArray = (vs ++ us).toArray by simp]
      exact h2 hv hu
end
theorem iop_tup {X : Cx} : OpR X (inplaceOp .Add) (rCatA X.K) := fun pins s σ H x y v u Q I rx ry ⟨a, b, xs, ys, e1, e2, ha, hb, hz, q0, q1, q2⟩ => by
  subst e1 e2
  obtain rfl : v = Value.ref a := rx
  obtain rfl : u = Value.ref b := ry
  obtain ⟨its, r1, p1, _⟩ := I.tuple ha
  obtain ⟨jts, r2, p2, _⟩ := I.tuple hb
  refine iadd_tuples p1 p2 (fun z => ⟨.ref b, H, I, rfl, q0 (r1.nil_iff.mp z)⟩) (fun z1 z2 => ⟨.ref a, H, I, rfl, q1 (fun z => z1 (r1.nil_iff.mpr z)) (r2.nil_iff.mp z2)⟩) (fun z1 z2 => ?_) (by rw [← r1.length, ← r2.length]; exact hz)
  exact ⟨.ref s.heap.objs.size, _, I.laid (t' := s.toks) (o := .tup (xs ++ ys)) (fun _ _ q => Heap.get?_push_of_some _ q) (Nat.le_refl _) ⟨by rw [List.length_append]; exact hz, _, r1.append r2, IsTup.new _ _⟩, rfl, q2 (fun z => z1 (r1.nil_iff.mpr z)) (fun z => z2 (r2.nil_iff.mpr z)) _ (I.hok.fresh (Nat.le_refl _))⟩
/-- x += y; a list must be owned -/
def iaddV (x y : D) (S : Sto) : Option (D × Sto) := match x, y with
  | .int i, .int j => some (.int (i + j), S)
  | .str a, .str b => if a.length + b.length ≤ big then some (.str (a ++ b), S) else none
  | .tup a, .tup b => if a.length + b.length ≤ big then some (.tup (a ++ b), S) else none
  | x, y => match ownL S x, lstOf S y with
    | some (n, a), some b => if a.length + b.length ≤ big then some (x, S.set n (.lst (a ++ b))) else none
    | _, _ => none
def rIAdd (K : PySem.W.Frag) : R2 := fun x y H Q => rI0 (fun i j => .int (i + j)) x y H Q ∨ (∃ i j, x = .str i ∧ y = .str j ∧ i.length + j.length ≤ sizeLine ∧ Q (.str (i ++ j)) H) ∨ rCatA K x y H Q ∨ rExt2 x y H Q
theorem iop_addV {X : Cx} : OpR X (inplaceOp .Add) (rIAdd X.K) := iop_add.or (iop_add_str.or (iop_tup.or iop_ext))
theorem opd_iadd {K : PySem.W.Frag} : OpD K (rIAdd K) iaddV := fun x y d S S' w H u v Q h r hx hy q => by
  unfold iaddV at h
  split at h
  · cases h
    exact .inl ⟨_, _, hx, hy, q w H _ Wd.Le.rfl r rfl⟩
  · obtain ⟨hl, e⟩ := some_if h
    cases e
    exact .inr (.inl ⟨_, _, hx, hy, big_line hl, q w H _ Wd.Le.rfl r rfl⟩)
  · rename_i a b
    obtain ⟨hl, e⟩ := some_if h
    cases e
    obtain ⟨p, xs, e1, h1, h2⟩ := hx
    obtain ⟨p2, ys, e3, h3, h4⟩ := hy
    subst e1 e3
    refine .inr (.inr (.inl ⟨p, p2, xs, ys, rfl, rfl, r.sqT h1, r.sqT h3, big_line (by rw [h2.len, h4.len]; exact hl), fun z => ?_, fun _ z => ?_, fun _ _ z hz => new_tup' r hz (h2.append h4) q⟩))
    · have ea := (dats_nil_iff h2).mpr z
      subst ea
      exact q w H _ Wd.Le.rfl r ⟨p2, ys, rfl, h3, h4⟩
    · have eb := (dats_nil_iff h4).mpr z
      subst eb
      rw [List.append_nil] at q
      exact q w H _ Wd.Le.rfl r ⟨p, xs, rfl, h1, h2⟩
  · split at h
    · rename_i n a b ha hb
      obtain ⟨hl, e⟩ := some_if h
      cases e
      obtain ⟨e2, h2, zs, h3, h4⟩ := ownL_at r hx ha
      obtain ⟨p, ys, e5, h5, h6⟩ := lstOf_at r hy hb
      refine .inr (.inr (.inr ⟨_, p, zs, ys, e2, e5, h3, h5, big_line (by rw [h4.len, h6.len]; exact hl), ?_⟩))
      rw [← e2]
      exact wr_lst r h2 (h4.append h6) hx q
    · cases h
def isubV (x y : D) (S : Sto) : Option (D × Sto) := subV x y S
section
variable {X : Cx} {W : WX} {pos apos : Pos} {k : Nat} {o a b c e : Expr} {es : List Expr} {A B C : DE} {L : DA}
theorem sv_iadd {i : Nat} {x : Str} {pos' : Pos} (hN : X.N.Nodup) (ha : Ev X W e A) (hi : X.N[i]? = some x := by rfl) (hx : Loc X.env.scope x := by first | exact Or.inl rfl | exact Or.inr rfl)
    (hf : X.fn x = true ∨ X.env.scope.names.lookup x = some .local := by first | exact .inl rfl | exact .inr rfl) : Sv X W (.AugAssign (.Name x pos') .Add e pos) (dAug i iaddV A) := sv_aug hN iop_addV opd_iadd ha hi hx hf
theorem sv_isub {i : Nat} {x : Str} {pos' : Pos} (hN : X.N.Nodup) (ha : Ev X W e A) (hi : X.N[i]? = some x := by rfl) (hx : Loc X.env.scope x := by first | exact Or.inl rfl | exact Or.inr rfl)
    (hf : X.fn x = true ∨ X.env.scope.names.lookup x = some .local := by first | exact .inl rfl | exact .inr rfl) : Sv X W (.AugAssign (.Name x pos') .Sub e pos) (dAug i subV A) := sv_aug hN iop_sub opd_sub ha hi hx hf
/-- x + y, a new list that is owned from now on -/
def addVO (x y : D) (S : Sto) : Option (D × Sto) := match lstOf S x, lstOf S y with
  | some a, some b => if a.length + b.length ≤ big then some (.ref S.length, S ++ [.lst (a ++ b)]) else none
  | _, _ => none
theorem opd_addO {K : PySem.W.Frag} : OpD K (rAddV K) addVO := fun x y d S S' w H u v Q h r hx hy q => by
  unfold addVO at h
  split at h
  · rename_i a b ha hb
    obtain ⟨hl, e⟩ := some_if h
    cases e
    obtain ⟨p, xs, e1, h1, h2⟩ := lstOf_at r hx ha
    obtain ⟨p2, ys, e3, h3, h4⟩ := lstOf_at r hy hb
    exact .inr (.inr (.inr ⟨p, p2, xs, ys, e1, e3, h1, h3, big_line (by rw [h2.len, h4.len]; exact hl), fun z hz => own_lst' r hz (h2.append h4) q⟩))
  · cases h
theorem ev_addO (ha : Ev X W a A) (hb : Ev X W b B) : Ev X W (.BinOp a .Add b pos) (dOp addVO A B) := ev_op op_addV opd_addO ha hb

/-! ### repr -/
def fitsR (d : PyData) : Prop := d.showable = true ∧ d.depth ≤ 60 ∧ d.hasDict = false ∧ d.shown.length ≤ big
instance (d : PyData) : Decidable (fitsR d) := inferInstanceAs (Decidable (_ ∧ _))
def reprV (x : D) (S : Sto) : Option (D × Sto) := match x with
  | .int _ => none
  | .str _ => none
  | .bl _ => none
  | .non => none
  | x => match pyS S x with
    | some d => if fitsR d then some (.str d.shown, S) else none
    | none => none
def rRepr (K : PySem.W.Frag) : List V → Hp → VK → Prop := fun xs H Q => ∃ p d, xs = [.ref p] ∧ Dp K H (.ref p) d ∧ fitsR d ∧ Q (.str d.shown) H
theorem call_reprD (h : Rdy X W k) : CallR X (.builtin "repr") (rRepr X.K) := fun pins s σ H xs us Q I r ⟨p, d, e, hd, hf, q⟩ => by
  subst e
  obtain ⟨u, rfl, ru⟩ := vals1 r
  obtain rfl : u = Value.ref p := ru
  obtain ⟨as, rd⟩ := Dp.reads I d _ (.ref p) hd rfl
  have hu := h.u65
  have hdep := hf.2.1
  exact repr_of_reads' rd hf.1 (PyData.noDict_hsm hf.2.2.1) h.gd (by omega) (fun _ _ e => e) (fun h' u tk kk => ⟨.str d.shown, H, I.kept kk, ⟨u, rfl⟩, q⟩) (big_line hf.2.2.2)
theorem b_repr (h : Rdy X W k) : CalR X (.builtin "repr") (g1 reprV) := cal1 (call_reprD h) fun x d S S' w H v Q hg r hx q => by
  have two : (∃ p, v = .ref p) → ∀ d0, pyS S x = some d0 → (if fitsR d0 then some (D.str d0.shown, S) else none) = some (d, S') → rRepr X.K [v] H Q := fun ⟨p, ep⟩ d0 h0 h1 => by
    obtain ⟨hf, e⟩ := some_if h1
    cases e
    subst ep
    exact ⟨p, d0, rfl, pyS_dp r hx h0, hf, q w H _ Wd.Le.rfl r rfl⟩
  have go : (∃ p, v = .ref p) → (match pyS S x with | some d => if fitsR d then some (D.str d.shown, S) else none | none => none) = some (d, S') → rRepr X.K [v] H Q := fun hp h1 => by
    split at h1
    · rename_i d0 h0
      exact two hp d0 h0 h1
    · cases h1
  cases x with
  | tup ds => exact go (by obtain ⟨p, xs, e, _⟩ := hx; exact ⟨p, e⟩) hg
  | lst ds => exact go (by obtain ⟨p, xs, e, _⟩ := hx; exact ⟨p, e⟩) hg
  | ref n => exact go ⟨_, hx.1⟩ hg
  | _ => cases hg
end
end Cw

set_option maxRecDepth 100000
set_option maxHeartbeats 2000000
set_option linter.all false
/-! Targets with a star; dict displays; calls with keywords. -/
namespace Cw
open PySem PySem.Spec PyProof.Rows L2

/-! ### a, *b, c = a list -/
section
variable {prog : Program} {w : World} {A : Around} {E : Value → Shared → Prop} {s : Shared}
/-- the items ahead of the star, a new list of those under it, the items behind it -/
theorem star_list {l : Addr} {its : List Value} {n i : Nat} {Q : List Value → Shared → Prop} (hl : s.heap.IsList l its.toArray) (hh : A.handled = none) (hi : i < n) (hn : n ≤ its.length + 1) (hz : its.length ≤ sizeLine)
    (q : ∀ (h1 : Heap) (tk : Nat), (∀ b o, s.heap.get? b = some o → h1.get? b = some o) →
      Q (its.take i ++ [.ref h1.objs.size] ++ (its.drop i).drop (its.length + 1 - n)) { s with heap := h1.push { cls := .type "list", data := .seq ((its.drop i).take (its.length + 1 - n)).toArray }, toks := tk }) :
    wpAny (model prog w) A (unpackItems (.ref l) n (some i)) Q E s := by
  have size : its.toArray.size = its.length := List.size_toArray ..
  have lt : l < s.heap.objs.size := by
    obtain ⟨o, e, _⟩ := hl
    exact Heap.lt_size e
  have ne : l ≠ s.heap.objs.size := Nat.ne_of_lt lt
  unfold unpackItems
  refine wpAny_bind ?_
  unfold notIterableAtAll
  refine wpAny_bind (wpAny_specialOf hl.typeIs slot_list_iter.lookup (wpAny_pure ?_))
  rw [if_neg (by simp)]
  refine wpAny_bind (wpAny_holding (wpAny_pyIter_list hl (wpAny_bind (wpAny_holding (PySem.W.kun_draw ne i 0 _ _ ⟨_, Heap.get?_push_size _ rfl, rfl, rfl⟩ (hl.push _) (by omega) fun g1 it1 sb1 => ?_)))))
  have l1 : g1.IsList l its.toArray := (hl.push _).extBut sb1.extBut ne
  have it1' : g1.IsListIter s.heap.objs.size l i := by rw [← Nat.zero_add i]; exact it1
  have len1 : (its.take i).length = i := by rw [List.length_take]; omega
  show wpAny _ _ (if ((List.drop 0 its).take i).length < i then _ else _) _ _ _
  rw [List.drop_zero, if_neg (by omega)]
  have itlt : s.heap.objs.size < g1.objs.size := by
    obtain ⟨o, e, _⟩ := it1'
    exact Heap.lt_size e
  have llt : l < g1.objs.size := Nat.lt_trans lt itlt
  refine wpAny_bind (wpAny_holding (PySem.W.kun_collect (s := { s with heap := g1 }) (T := "list_iterator") (.inr (.inr (.inl rfl))) (Walks.list (A := A.in1) hh s.heap.objs.size l ne its.toArray) (fun j u st => st.1.typeIs) (k := i) (by omega) ⟨it1', l1⟩ itlt llt (fun g2 tk kk => ?_) (by omega)))
  have len2 : (its.drop i).length = its.length - i := List.length_drop
  have mid : (its.drop i).length - (n - 1 - i) = its.length + 1 - n := by omega
  show wpAny _ _ (if (its.drop i).length < n - 1 - i then _ else _) _ _ _
  rw [if_neg (by omega)]
  show wpAny _ _ (newList ((its.drop i).take ((its.drop i).length - (n - 1 - i))) >>= fun d => pure (its.take i ++ [d] ++ (its.drop i).drop ((its.drop i).length - (n - 1 - i)))) _ _ _
  rw [mid]
  have keep : ∀ b o, s.heap.get? b = some o → g2.get? b = some o := fun b o e => by
    have hb : b ≠ s.heap.objs.size := Nat.ne_of_lt (Heap.lt_size e)
    exact kk b o hb (sb1.extBut b o hb (Heap.get?_push_of_some _ e))
  exact wpAny_bind (wpAny_newList (s := { s with heap := g2, toks := tk }) (wpAny_pure (q g2 tk keep)) (by rw [List.length_take]; omega))
end
section
variable {X : Cx} {W : WX} {pos apos : Pos} {k : Nat} {o a b c e : Expr} {es : List Expr} {A B C : DE} {L : DA}
/-- a target under the star -/
theorem gsv_star {p : Pos} {ws us : List Nat} {G : DG} {T : DGs} (h1 : Gv X e ws G) (h2 : Gsv X es us T) : Gsv X (.Starred e p :: es) (ws ++ us) (gsCons G T) :=
  ⟨⟨fun pins s σ H vs us Q I r ⟨ds, δ, S, w, δ', rp, he, hd, hg, q⟩ => by
    cases ds with
    | nil => cases hg
    | cons d ds =>
      obtain ⟨v, vr, ev, hv, hvr⟩ := hd
      obtain ⟨δ1, g1, g2⟩ := Option.bind_eq_some_iff.mp hg
      subst ev
      cases r with
      | cons r rr =>
        show wpAny _ _ (assignInOrder (assign e X.env :: (assignEach es X.env).map (·.2)) _) _ _ s
        refine assignInOrder_cons (thn (h1.pg.run pins s σ H _ _ _ I r ⟨d, δ, S, w, δ1, rp, he, hv, g1, fun σ1 w1 H1 e1 r1 he1 b1 => ?_⟩) fun _ s1 ⟨σ1, H1, I1, q1⟩ => h2.pgs.run pins s1 σ1 H1 _ _ Q I1 rr q1)
        exact ⟨ds, δ1, S, w1, δ', r1, he1, hvr.le e1, g2, fun σ2 w2 H2 e2 r2 he2 b2 => q σ2 w2 H2 (e1.trans e2) r2 he2 (b1.trans b2)⟩⟩⟩
def cutStar (n i : Nat) (ds : List D) : List D := ds.take i ++ [.lst ((ds.drop i).take (ds.length + 1 - n))] ++ (ds.drop i).drop (ds.length + 1 - n)
def gStar (n i : Nat) (T : DGs) : DG := fun d δ S => match lsOf S d with | some ds => if n ≤ ds.length + 1 then T (cutStar n i ds) δ S else none | none => none
def tStar (K : PySem.W.Frag) (n i : Nat) (t : TGs) : TG := fun v σ H Q => ∃ a xs, v = .ref a ∧ SqL K H a xs ∧ n ≤ xs.length + 1 ∧ ∀ p, H p = none → t (xs.take i ++ [.ref p] ++ (xs.drop i).drop (xs.length + 1 - n)) σ (upd H p (.lst ((xs.drop i).take (xs.length + 1 - n)))) Q
theorem pg_star {t : TGs} {n i m : Nat} (hc : X.calm = true) (h : PGs X es t) (hi : i < n) (hn : (assignEach es X.env).length = n) (hst : (assignEach es X.env).findIdx? (·.1) = some i) : PG X (.Tuple es m pos) (tStar X.K n i t) := by
  refine ⟨fun pins s σ H v u Q I r ⟨l, xs, ev, hq, hl, q⟩ => ?_⟩
  subst ev
  obtain rfl : u = Value.ref l := r
  obtain ⟨its, rv, pl, hz⟩ := I.list hq
  have len := rv.length
  rw [PyProof.Rows.assign_Tuple]
  refine wpAny_bind (wpAny_standAt ?_)
  unfold unpack
  rw [hn, hst]
  refine wpAny_bind (wpAny_holding (star_list pl.isList (I.ok.hd hc) hi (by omega) (by omega) fun h1 tk kk => ?_))
  have I1 : Inv X pins σ H { s with heap := h1, toks := tk } := I.kept kk
  have small : ((xs.drop i).take (xs.length + 1 - n)).length ≤ sizeLine := by
    rw [List.length_take, List.length_drop]
    omega
  have I2 := I1.lnew (t' := tk) (ys := (xs.drop i).take (xs.length + 1 - n)) ((rv.drop i).take (xs.length + 1 - n)) small
  have e1 : its.length + 1 - n = xs.length + 1 - n := by omega
  rw [e1]
  exact h.run pins _ σ _ _ _ Q I2 (((rv.take i).append (.cons (show RelV (.ref h1.objs.size) (.ref h1.objs.size) from rfl) .nil)).append ((rv.drop i).drop _)) (q h1.objs.size (I1.hok.fresh (Nat.le_refl _)))
theorem gv_star {n i m : Nat} {ws : List Nat} {T : DGs} (hc : X.calm = true) (h : Gsv X es ws T) (hi : i < n := by decide) (hn : (assignEach es X.env).length = n := by rfl) (hst : (assignEach es X.env).findIdx? (·.1) = some i := by rfl) : Gv X (.Tuple es m pos) ws (gStar n i T) :=
  ⟨pg_imp (pg_star hc h.pgs hi hn hst) fun v σ H Q ⟨d, δ, S, w, δ', r, he, hd, hg, kk⟩ => by
    unfold gStar at hg
    cases q : lsOf S d with
    | none => rw [q] at hg; cases hg
    | some ds =>
      rw [q] at hg
      obtain ⟨p, xs, e, h1, h2⟩ := lsOf_at r hd q
      have hg' : (if n ≤ ds.length + 1 then T (cutStar n i ds) δ S else none) = some δ' := hg
      by_cases hl : n ≤ ds.length + 1
      · rw [if_pos hl] at hg'
        refine ⟨p, xs, e, h1, by rw [h2.len]; exact hl, fun z hz => ?_⟩
        obtain ⟨z1, z2, z3⟩ := new_lst r hz ((h2.drop i).take (xs.length + 1 - n))
        rw [h2.len] at z1 z2 z3 ⊢
        refine ⟨cutStar n i ds, δ, S, _, δ', z2, he.le z1, ?_, hg', fun σ' w' H' e' => kk σ' w' H' (z1.trans e')⟩
        exact (((h2.take i).le z1).append (Dats.cons z3 Dats.nil)).append (((h2.drop i).drop _).le z1)
      · rw [if_neg hl] at hg'
        cases hg'⟩

/-! ### {k: v, ..} -/
def DatP (K : PySem.W.Frag) (w : Wd) (xs : List (D × D)) (vs : List (V × V)) : Prop := Dats K w (xs.map (·.1)) (vs.map (·.1)) ∧ Dats K w (xs.map (·.2)) (vs.map (·.2))
def dPs : List (DE × DE) → Env → Sto → Option (Out (List (D × D)))
  | [], _, S => some (.ok [] S)
  | (A, B) :: r, δ, S => bnd (A δ S) fun x S1 => bnd (B δ S1) fun y S2 => bnd (dPs r δ S2) fun ps S3 => some (.ok ((x, y) :: ps) S3)
structure Pv (X : Cx) (W : WX) (pos : Pos) (keys : List (Option Expr)) (values : List Expr) (ps : List (DE × DE)) : Prop where
  ex : ∃ trs, PPs X pos keys values trs ∧ ∀ σ H Q, (∃ δ S w, Rep X.K S w H ∧ EnvOk X.K w σ δ ∧ Po X.K W σ w (dPs ps δ S) (fun xs _ w' H' => ∀ vs, DatP X.K w' xs vs → Q vs H')) → tPairs trs σ H Q
theorem pv_nil : Pv X W pos [] [] [] := ⟨_, pps_nil, fun σ H Q ⟨δ, S, w, r, he, p⟩ => p w H Wd.Le.rfl r [] ⟨Dats.nil, Dats.nil⟩⟩
theorem pv_cons {ks : List (Option Expr)} {vs : List Expr} {ps : List (DE × DE)} (ha : Ev X W a A) (hb : Ev X W b B) (h : Pv X W pos ks vs ps) : Pv X W pos (some a :: ks) (b :: vs) ((A, B) :: ps) := by
  obtain ⟨trs, h1, h2⟩ := h.ex
  refine ⟨_, pps_cons ha.pe hb.pe h1, fun σ H Q ⟨δ, S, w, r, he, p⟩ => ⟨δ, S, w, r, he, (show Po X.K W σ w (bnd (A δ S) fun x S1 => bnd (B δ S1) fun y S2 => bnd (dPs ps δ S2) fun ps S3 => some (.ok ((x, y) :: ps) S3)) _ from p).bnd.mono fun x S1 w1 H1 e1 r1 p1 u hu => ?_⟩⟩
  refine ⟨δ, S1, w1, r1, he.le e1, p1.bnd.mono fun y S2 w2 H2 e2 r2 p2 v hv => ?_⟩
  refine h2 σ H2 _ ⟨δ, S2, w2, r2, (he.le e1).le e2, p2.bnd.mono fun xs S3 w3 H3 e3 r3 p3 us hus => ?_⟩
  exact p3 w3 H3 Wd.Le.rfl r3 _ ⟨Dats.cons ((hu.le e2).le e3) hus.1, Dats.cons (hv.le e3) hus.2⟩
/-- keys that are ints or texts -/
def keyed : List (D × D) → Option (List (Key × D))
  | [] => some []
  | (x, y) :: ps => match kOf x, keyed ps with
    | some k, some ks => some ((k, y) :: ks)
    | _, _ => none
theorem keyed_ok {K : PySem.W.Frag} {w : Wd} : ∀ {xs : List (D × D)} {vs : List (V × V)} {ks : List (Key × D)}, DatP K w xs vs → keyed xs = some ks → ∃ kvs : List (Key × V), vs = kvs.map (fun kv => (kV kv.1, kv.2)) ∧ DatA K w ks kvs ∧ kvs.length = xs.length
  | [], vs, ks, ⟨h1, _⟩, e => by
    cases e
    have z : vs = [] := List.map_eq_nil_iff.mp h1
    exact ⟨[], z, DatA.nil, rfl⟩
  | (x, y) :: xs, [], ks, ⟨h1, _⟩, e => by
    obtain ⟨_, _, q, _⟩ := h1
    cases q
  | (x, y) :: xs, (u, v) :: vs, ks, ⟨h1, h2⟩, e => by
    obtain ⟨u', us, q1, hu, hus⟩ := h1
    obtain ⟨v', vs', q2, hv, hvs⟩ := h2
    cases q1
    cases q2
    have e' : (match kOf x, keyed xs with | some k, some ks => some ((k, y) :: ks) | _, _ => none) = some ks := e
    cases c1 : kOf x with
    | none => rw [c1] at e'; cases e'
    | some k =>
      cases c2 : keyed xs with
      | none => rw [c1, c2] at e'; cases e'
      | some ks' =>
        rw [c1, c2] at e'
        cases e'
        obtain ⟨kvs, f1, f2, f3⟩ := keyed_ok (xs := xs) (vs := vs) ⟨hus, hvs⟩ c2
        have hu' : u = kV k := kOf_at hu c1
        exact ⟨(k, v) :: kvs, by rw [List.map_cons, ← f1, hu'], ⟨v, kvs, rfl, hv, f2⟩, by rw [List.length_cons, List.length_cons, f3]⟩
def laid (ks : List (Key × D)) : List (Key × D) := ks.foldl (fun acc kv => putA acc kv.1 kv.2) []
theorem laid_ok {K : PySem.W.Frag} {w : Wd} : ∀ {ks acc : List (Key × D)} {kvs acv : List (Key × V)}, DatA K w ks kvs → DatA K w acc acv → DatA K w (ks.foldl (fun acc kv => putA acc kv.1 kv.2) acc) (mergeK acv kvs)
  | [], acc, kvs, acv, h, t => by
    rw [show kvs = [] from h]
    exact t
  | (k, d) :: ks, acc, kvs, acv, ⟨v, vs, e, h1, h2⟩, t => by
    subst e
    exact laid_ok (ks := ks) (kvs := vs) (acv := putK acv k v) h2 (t.put h1)
def dDic (ps : List (DE × DE)) : DE := fun δ S => bndL (dPs ps δ S) fun xs S1 => match keyed xs with
  | some ks => some (.ok (.ref S1.length) (S1 ++ [.dic (laid ks)]))
  | none => none
theorem dPs_len : ∀ {ps : List (DE × DE)} {δ : Env} {S S' : Sto} {xs : List (D × D)}, dPs ps δ S = some (.ok xs S') → xs.length = ps.length
  | [], δ, S, S', xs, e => by
    cases e
    rfl
  | (A, B) :: ps, δ, S, S', xs, e => by
    have e' : (bnd (A δ S) fun x S1 => bnd (B δ S1) fun y S2 => bnd (dPs ps δ S2) fun ps S3 => some (.ok ((x, y) :: ps) S3)) = some (.ok xs S') := e
    cases c1 : A δ S with
    | none => rw [c1] at e'; cases e'
    | some o1 =>
      cases o1 with
      | exc x S1 => rw [c1] at e'; cases e'
      | ok x S1 =>
        rw [c1, bnd_ok] at e'
        cases c2 : B δ S1 with
        | none => rw [c2] at e'; cases e'
        | some o2 =>
          cases o2 with
          | exc x S2 => rw [c2] at e'; cases e'
          | ok y S2 =>
            rw [c2, bnd_ok] at e'
            cases c3 : dPs ps δ S2 with
            | none => rw [c3] at e'; cases e'
            | some o3 =>
              cases o3 with
              | exc x S3 => rw [c3] at e'; cases e'
              | ok zs S3 =>
                rw [c3, bnd_ok] at e'
                cases e'
                rw [List.length_cons, List.length_cons, dPs_len c3]
/-- the framed object is owned from now on, as something else -/
theorem Rep.adoptO {K : PySem.W.Frag} {S : Sto} {w : Wd} {H : Hp} {p : Addr} {o : HO} {ob : Ob} (r : Rep K S w H) (hp : w.F p = some o) (h1 : ObAt K w H p ob) {F : Hp} (hF : ∀ b, b ≠ p → w.F b = F b) (h0 : F p = none) : Rep K (S ++ [ob]) (w.adopt p F) H := by
  obtain ⟨_, h2, h3⟩ := r.frm p _ hp
  have low : ∀ j, j < w.n → (w.adopt p F).a j = w.a j := fun j hj => if_neg (Nat.ne_of_lt hj)
  have top : (w.adopt p F).a w.n = p := if_pos rfl
  have kn : w.Kn (w.adopt p F) := ⟨fun _ _ e => e, Nat.le_succ _, low⟩
  refine ⟨r.sub, by show w.n + 1 = _; rw [List.length_append, r.len]; rfl, fun j oj e => ?_, fun i j hi hj e => ?_, fun b u e => ?_⟩
  · rcases Nat.lt_or_ge j S.length with hj | hj
    · rw [List.getElem?_append_left hj] at e
      obtain ⟨g1, g2⟩ := r.obs j oj e
      rw [low j (by rw [r.len]; exact hj)]
      exact ⟨g1, g2.kn kn rfl⟩
    · have hj2 := (List.getElem?_eq_some_iff.mp e).1
      rw [List.length_append, List.length_singleton] at hj2
      obtain rfl : j = S.length := by omega
      rw [List.getElem?_append_right (Nat.le_refl _), Nat.sub_self] at e
      obtain rfl : ob = oj := by simpa using e
      rw [← r.len, top]
      exact ⟨h2, h1.kn kn rfl⟩
  · have hi' : i < w.n + 1 := hi
    have hj' : j < w.n + 1 := hj
    rcases Nat.lt_or_ge i w.n with c1 | c1
    · rcases Nat.lt_or_ge j w.n with c2 | c2
      · rw [low i c1, low j c2] at e
        exact r.inj i j c1 c2 e
      · obtain rfl : j = w.n := by omega
        rw [low i c1, top] at e
        exact absurd e (h3 i c1)
    · obtain rfl : i = w.n := by omega
      rcases Nat.lt_or_ge j w.n with c2 | c2
      · rw [low j c2, top] at e
        exact absurd e.symm (h3 j c2)
      · omega
  · have e' : F b = some u := e
    have hb : b ≠ p := fun q => by
      rw [q, h0] at e'
      cases e'
    obtain ⟨h4, h5, h6⟩ := r.frm b u ((hF b hb).trans e')
    refine ⟨h4, h5, fun j hj => ?_⟩
    have hj' : j < w.n + 1 := hj
    rcases Nat.lt_or_ge j w.n with c1 | c1
    · rw [low j c1]
      exact h6 j c1
    · obtain rfl : j = w.n := by omega
      rw [top]
      exact hb.symm
theorem ev_dic {keys : List (Option Expr)} {values : List Expr} {ps : List (DE × DE)} (h : Pv X W pos keys values ps) (hall : keys.all (·.isSome) = true := by rfl) (hl : keys.length = values.length := by rfl) (h0 : keys ≠ [] := by exact List.cons_ne_nil _ _) (h15 : keys.length ≤ 15 := by decide) (hp : ps.length ≤ 15 := by decide) : Ev X W (.Dict keys values pos) (dDic ps) := by
  obtain ⟨trs, g1, g2⟩ := h.ex
  refine ⟨pe_imp (pe_disp g1 hall hl h0 h15) fun σ H Q ⟨δ, S, w, r, he, p⟩ z hz => ?_⟩
  have zF : w.F z = none := by
    cases q : w.F z with
    | none => rfl
    | some o =>
      have := (r.frm z o q).1
      rw [hz] at this
      cases this
  have kn0 : w.Kn (w.frame z (.dK [])) := ⟨fun _ _ e => e, Nat.le_refl _, fun _ _ => rfl⟩
  have back : ∀ {w2 : Wd}, (w.frame z (.dK [])).Le w2 → w.Kn w2 := fun e => ⟨e.h, e.n, e.a⟩
  cases q : dPs ps δ S with
  | none =>
    unfold dDic at p
    rw [q] at p
    exact p.elim
  | some out =>
    cases out with
    | exc x S1 =>
      unfold dDic at p
      rw [q] at p
      exact p.elim
    | ok xs S1 =>
      have p' : Po X.K W σ w (match keyed xs with
        | some ks => some (Out.ok (D.ref S1.length) (S1 ++ [.dic (laid ks)]))
        | none => none) (Got X.K Q) := by
        unfold dDic at p
        rw [q] at p
        exact p
      refine g2 σ _ _ ⟨δ, S, w.frame z (.dK []), r.frame hz _, he.kn kn0, ?_⟩
      rw [q]
      intro w1 H1 e1 r1 vs hvs
      have F1 : w1.F z = some (.dK []) := by
        rw [e1.f]
        show upd w.F z _ z = _
        rw [upd_same]
      refine ⟨(r1.frm z _ F1).1, ?_⟩
      cases hk : keyed xs with
      | none =>
        rw [hk] at p'
        exact p'.elim
      | some ks =>
        rw [hk] at p'
        obtain ⟨kvs, f1, f2, f3⟩ := keyed_ok hvs hk
        refine ⟨kvs, f1, by rw [f3, dPs_len q]; exact hp, ?_⟩
        have r2 := r1.framed F1 (o' := .dK (mergeK [] kvs))
        have F2 : (w1.frame z (.dK (mergeK [] kvs))).F z = some (.dK (mergeK [] kvs)) := upd_same
        have kn1 : w1.Kn (w1.frame z (.dK (mergeK [] kvs))) := ⟨fun _ _ e => e, Nat.le_refl _, fun _ _ => rfl⟩
        have r3 := r2.adoptO (ob := .dic (laid ks)) F2 ⟨_, upd_same, (laid_ok f2 DatA.nil).kn kn1⟩ (F := w.F) (fun b hb => by
          show upd w1.F z _ b = _
          rw [upd_ne hb, e1.f]
          show upd w.F z _ b = _
          rw [upd_ne hb]) zF
        refine p' ((w1.frame z (.dK (mergeK [] kvs))).adopt z w.F) _ ⟨e1.h, Nat.le_trans e1.n (Nat.le_succ _), fun j hj => ?_, rfl⟩ r3 _ ⟨?_, ?_⟩
        · show (if j = w1.n then z else w1.a j) = w.a j
          rw [if_neg (Nat.ne_of_lt (Nat.lt_of_lt_of_le hj e1.n))]
          exact e1.a j hj
        · show V.ref z = V.ref (if S1.length = w1.n then z else w1.a S1.length)
          rw [if_pos r1.len.symm]
        · show S1.length < w1.n + 1
          rw [r1.len]
          exact Nat.lt_succ_self _

/-! ### f(e, .., k = e, ..) -/
structure Kv (X : Cx) (W : WX) (kws : List Keyword) (A : DA) : Prop where
  pk : PK X kws (TAv X.K W A)
theorem pk_imp {kws : List Keyword} {t t' : TA} (h : PK X kws t) (g : ∀ σ H Q, t' σ H Q → t σ H Q) : PK X kws t' := ⟨fun pos pins s σ H Q I q => h.run pos pins s σ H Q I (g σ H Q q)⟩
theorem kv_nil : Kv X W [] aNil := ⟨pk_imp pk_nil fun σ H Q ⟨δ, S, w, r, he, p⟩ => p w H Wd.Le.rfl r [] rfl⟩
theorem kv_cons {kws : List Keyword} {nm : Option Str} {kp : Pos} {T : DA} (h : Ev X W a A) (t : Kv X W kws T) : Kv X W (⟨nm, a, kp⟩ :: kws) (aCons A T) :=
  ⟨pk_imp (pk_cons h.pe t.pk) fun σ H Q ⟨δ, S, w, r, he, p⟩ => ⟨δ, S, w, r, he, p.bnd.mono fun x S1 w1 H1 e1 r1 p1 v hv =>
    ⟨δ, S1, w1, r1, he.le e1, p1.bnd.mono fun xs S2 w2 H2 e2 r2 p2 vs hvs => p2 w2 H2 Wd.Le.rfl r2 _ (Dats.cons (hv.le e2) hvs)⟩⟩⟩
/-- n written values, m by name; gD puts them in the parameters' order -/
def dCallK (F : Fn) (n m l : Nat) (gD : List D → List D → List D) (A T : DA) : DE := fun δ S => bnd (A δ S) fun xs S1 => bnd (T δ S1) fun zs S2 => if xs.length = n ∧ zs.length = m ∧ (gD xs zs).length = l then F (gD xs zs) S2 else none
theorem ev_callK {f : Addr} {fd : FuncData} {ps ks : List Str} {F : Fn} {x : Str} {p : Pos} {n : Nat} {kws : List Keyword} {gD : List D → List D → List D} {gu : List Value → List Value → List Value} {gV : List V → List V → List V} {T : DA} (g : GnOk X.prog X.w X.K X.mg X.base k f fd ps F) (hr : Rdy X W k) (hg : Gl X x) (hm : X.mg x = some (.ref f)) (hk : PySem.W.keepIn X.K (.ref f) = true)
    (hb : KBn X.K fd ps n ks gu gV) (hd : ∀ w xs zs vs us, Dats X.K w xs vs → Dats X.K w zs us → Dats X.K w (gD xs zs) (gV vs us)) (ha : Av X W (e :: es) L) (hkw : Kv X W kws T) (hall : (backToKw pos (keywordEach kws X.env)).all (·.1.isSome) = true := by rfl) (hks : (backToKw pos (keywordEach kws X.env)).filterMap (·.1) = ks := by rfl)
    (hdb : (x == ("__debug__" : Str)) = false := by decide) (he : starEach (e :: es) X.env = (false, eval e X.env) :: starEach es X.env := by rfl)
    (hpl : ((backTo pos (starEach (e :: es) X.env)).any (·.1) || (backToKw pos (keywordEach kws X.env)).any (·.1.isNone)) = false := by rfl) : Ev X W (.Call (.Name x p) (e :: es) kws pos) (dCallK F n ks.length ps.length gD L T) := ⟨⟨fun pins s σ H Q I ⟨δ, S, w, r, he', q⟩ => by
  refine wpAny_Call_Name_kw (ld_glob I hg hm ?_ hdb)
  refine PySem.W.callWith_KW (h₀ := X.base) I.ok.mod.kin hk hall (thn (ha.pa.run pos pins s σ H (fun vs H1 => ∃ xs S1 w1, Rep X.K S1 w1 H1 ∧ Dats X.K w1 xs vs ∧ EnvOk X.K w1 σ δ ∧ Po X.K W σ w1 (bnd (T δ S1) fun zs S2 => if xs.length = n ∧ zs.length = ks.length ∧ (gD xs zs).length = ps.length then F (gD xs zs) S2 else none) (Got X.K Q)) I
    ⟨δ, S, w, r, he', q.bnd.mono fun xs S1 w1 H1 e1 r1 p1 vs hvs => ⟨xs, S1, w1, r1, hvs, he'.le e1, p1⟩⟩) fun us s1 ⟨vs, H1, I1, rv, xs, S1, w1, r1, hvs, he1, p1⟩ => ?_) hpl he
  refine thn (hkw.pk.run pos pins s1 σ H1 (fun zs H2 => ∃ ds S2 w2, Rep X.K S2 w2 H2 ∧ Dats X.K w2 ds zs ∧ w1.Le w2 ∧ Po X.K W σ w2 (if xs.length = n ∧ ds.length = ks.length ∧ (gD xs ds).length = ps.length then F (gD xs ds) S2 else none) (Got X.K Q)) I1
    ⟨δ, S1, w1, r1, he1, p1.bnd.mono fun ds S2 w2 H2 e2 r2 p2 zs hzs => ⟨ds, S2, w2, r2, hzs, e2, p2⟩⟩) fun ws s2 ⟨zs, H2, I2, rz, ds, S2, w2, r2, hds, e2, p2⟩ => ⟨I2.kIn, ?_⟩
  rw [hks]
  by_cases hl : xs.length = n ∧ ds.length = ks.length ∧ (gD xs ds).length = ps.length
  · rw [if_pos hl] at p2
    have b := hb.to s2 us ws I2.kIn (by rw [← rv.length, hvs.len]; exact hl.1) (by rw [← rz.length, hds.len]; exact hl.2.1)
    refine wpAny_call (codeAny_mono (run_g (R := Got X.K Q) g hr I2 b (hb.rel rv rz) hl.2.2 r2 (hd _ _ _ _ _ (hvs.le e2) hds) p2) fun rr s' hq => ?_)
    cases rr with
    | error e => exact hq
    | ok fl =>
      cases fl with
      | ret u => exact hq
      | _ => exact False.elim hq
  · rw [if_neg hl] at p2
    exact p2.elim⟩⟩
/-- all keyword-only parameters written, in their order, behind the others -/
theorem kbn_tail {K : PySem.W.Frag} {fd : FuncData} {ps ks : List Str} {n : Nat} (h : ∀ (s : Shared) (us ws : List Value), us.length = n → ws.length = ks.length → BindsTo s fd ⟨us, ks.zip ws⟩ (ps.zip (us ++ ws))) : KBn K fd ps n ks (· ++ ·) (· ++ ·) :=
  ⟨fun s us ws _ => h s us ws, fun r q => r.append q⟩
theorem dats_tail {K : PySem.W.Frag} : ∀ w xs zs vs us, Dats K w xs vs → Dats K w zs us → Dats K w (xs ++ zs) (vs ++ us) := fun _ _ _ _ _ h t => h.append t
end
end Cw

set_option maxRecDepth 100000
set_option maxHeartbeats 2000000
set_option linter.all false
/-! How many distinct: len(set(t)), len({e for .. in ..}). -/
namespace Cw
open PySem PySem.Spec PyProof.Rows L2

/-! ### distinct ones -/
def uniq {α : Type} [DecidableEq α] : List α → List α
  | [] => []
  | x :: xs => if x ∈ xs then uniq xs else x :: uniq xs
section
variable {α : Type} [DecidableEq α]
theorem mem_uniq {k : α} : ∀ xs : List α, k ∈ uniq xs ↔ k ∈ xs
  | [] => Iff.rfl
  | x :: xs => by
    unfold uniq
    by_cases h : x ∈ xs
    · rw [if_pos h, mem_uniq xs, List.mem_cons]
      exact ⟨.inr, fun q => q.elim (fun e => e ▸ h) id⟩
    · rw [if_neg h, List.mem_cons, List.mem_cons, mem_uniq xs]
theorem uniq_nodup : ∀ xs : List α, (uniq xs).Nodup
  | [] => List.Pairwise.nil
  | x :: xs => by
    unfold uniq
    by_cases h : x ∈ xs
    · rw [if_pos h]
      exact uniq_nodup xs
    · rw [if_neg h]
      exact List.nodup_cons.mpr ⟨fun q => h ((mem_uniq xs).mp q), uniq_nodup xs⟩
theorem sub_len : ∀ {xs ys : List α}, xs.Nodup → (∀ k ∈ xs, k ∈ ys) → xs.length ≤ ys.length
  | [], _, _, _ => Nat.zero_le _
  | x :: xs, ys, hn, h => by
    obtain ⟨h1, h2⟩ := List.nodup_cons.mp hn
    have hx : x ∈ ys := h x List.mem_cons_self
    have ih := sub_len (xs := xs) (ys := ys.erase x) h2 fun k hk => (List.mem_erase_of_ne (by intro e; rw [e] at hk; exact h1 hk)).mpr (h k (List.mem_cons_of_mem _ hk))
    rw [List.length_erase_of_mem hx] at ih
    have : 0 < ys.length := List.length_pos_of_mem hx
    rw [List.length_cons]
    omega
theorem same_len {xs ys : List α} (h1 : xs.Nodup) (h2 : ys.Nodup) (h : ∀ k, k ∈ xs ↔ k ∈ ys) : xs.length = ys.length :=
  Nat.le_antisymm (sub_len h1 fun k hk => (h k).mp hk) (sub_len h2 fun k hk => (h k).mpr hk)
theorem uniq_le : ∀ xs : List α, (uniq xs).length ≤ xs.length
  | [] => Nat.le_refl _
  | x :: xs => by
    have := uniq_le xs
    unfold uniq
    split
    · rw [List.length_cons]; omega
    · rw [List.length_cons, List.length_cons]; omega
theorem uniq_len : ∀ xs : List α, (uniq xs).length = xs.length ↔ xs.Nodup
  | [] => ⟨fun _ => List.Pairwise.nil, fun _ => rfl⟩
  | x :: xs => by
    have ih := uniq_len xs
    have le := uniq_le xs
    rw [List.nodup_cons]
    unfold uniq
    by_cases h : x ∈ xs
    · rw [if_pos h, List.length_cons]
      exact ⟨fun q => by omega, fun q => absurd h q.1⟩
    · rw [if_neg h, List.length_cons, List.length_cons, ← ih]
      exact ⟨fun q => ⟨h, by omega⟩, fun q => by omega⟩
end
theorem Rep.junk {K : PySem.W.Frag} {S : Sto} {w : Wd} {H : Hp} {p : Addr} (r : Rep K S w H) (hp : H p = none) (o : HO) : Rep K S w (upd H p o) :=
  ⟨fun b u e => by
    have := r.sub b u e
    rw [upd_ne (ne_of_none this hp)]
    exact this, r.len, fun k ob e => by
    obtain ⟨h1, h2⟩ := r.obs k ob e
    have hk : k < w.n := by
      rw [r.len]
      exact (List.getElem?_eq_some_iff.mp e).1
    exact ⟨h1, h2.kn ⟨fun _ _ e => e, Nat.le_refl _, fun _ _ => rfl⟩ (upd_ne (r.ne hp hk))⟩, r.inj, fun b u e => by
    obtain ⟨h1, h2, h3⟩ := r.frm b u e
    exact ⟨by rw [upd_ne (ne_of_none h1 hp)]; exact h1, h2, h3⟩⟩
theorem Rep.rejunk {K : PySem.W.Frag} {S : Sto} {w : Wd} {H : Hp} {p : Addr} (r : Rep K S w H) (h1 : w.H p = none) (h2 : w.F p = none) (h3 : ∀ k, k < w.n → w.a k ≠ p) (o : HO) : Rep K S w (upd H p o) :=
  ⟨fun b u e => by
    rw [upd_ne (ne_of_none e h1)]
    exact r.sub b u e, r.len, fun k ob e => by
    obtain ⟨g1, g2⟩ := r.obs k ob e
    have hk : k < w.n := by
      rw [r.len]
      exact (List.getElem?_eq_some_iff.mp e).1
    exact ⟨g1, g2.kn ⟨fun _ _ e => e, Nat.le_refl _, fun _ _ => rfl⟩ (upd_ne (h3 k hk))⟩, r.inj, fun b u e => by
    obtain ⟨g1, g2, g3⟩ := r.frm b u e
    exact ⟨by rw [upd_ne (ne_of_none e h2)]; exact g1, g2, g3⟩⟩
/-- the ints of a list -/
def intsOf : List D → Option (List Int)
  | [] => some []
  | .int i :: ds => (intsOf ds).map (i :: ·)
  | _ :: _ => none
theorem intsOf_ok {K : PySem.W.Frag} {w : Wd} : ∀ {ds : List D} {vs : List V} {ys : List Int}, Dats K w ds vs → intsOf ds = some ys → vs = ys.map V.int
  | [], _, ys, h, e => by
    cases e
    exact h
  | .int s :: ds, _, ys, ⟨v, vs, h1, h2, h3⟩, e => by
    obtain ⟨cs, h4, h5⟩ := Option.map_eq_some_iff.mp (show (intsOf ds).map (s :: ·) = some ys from e)
    subst h5
    rw [h1, intsOf_ok h3 h4, show v = .int s from h2]
    rfl
  | .non :: _, _, _, _, e => by cases e
  | .bl _ :: _, _, _, _, e => by cases e
  | .str _ :: _, _, _, _, e => by cases e
  | .tup _ :: _, _, _, _, e => by cases e
  | .lst _ :: _, _, _, _, e => by cases e
  | .scr _ :: _, _, _, _, e => by cases e
  | .ref _ :: _, _, _, _, e => by cases e
  | .fn _ :: _, _, _, _, e => by cases e
  | .ty _ :: _, _, _, _, e => by cases e
theorem ints_vals : ∀ {ns : List Int} {us : List Value}, Vals (ns.map V.int) us → IntsAre us ns
  | [], _, .nil => .nil
  | n :: ns, _, .cons r t => by
    obtain ⟨k, rfl⟩ := r
    exact .cons n k (ints_vals t)
section
variable {X : Cx} {W : WX} {pos apos : Pos} {k : Nat} {o a b c e : Expr} {es : List Expr} {A B C : DE} {L : DA}
def lenSet1 (x : D) : Option D := match x with
  | .tup ds => (intsOf ds).bind fun ns => if ns.length ≤ 4000 then some (.int (uniq ns).length) else none
  | _ => none
def dLenSet (A : DE) : DE := fun δ S => bnd (A δ S) fun x S1 => up (lenSet1 x) S1
def tLenSetT (K : PySem.W.Frag) (ta : TE) : TE := fun σ H Q => ta σ H fun x H1 => ∃ (l : Addr) (ns : List Int), x = .ref l ∧ SqT K H1 l (ns.map V.int) ∧ ns.length ≤ 4000 ∧ Q (.int (uniq ns).length) H1
theorem pe_lenSetT {ta : TE} {p p2 q pos : Pos} (hc : X.calm = true) (hg : Gl X "len") (hm : X.mg "len" = none) (hg2 : Gl X "set") (hm2 : X.mg "set" = none) (ha : PE X a ta)
    (na : starEach [a] X.env = (false, eval a X.env) :: starEach [] X.env := by rfl) : PE X (.Call (.Name "len" p) [.Call (.Name "set" p2) [a] [] q] [] pos) (tLenSetT X.K ta) := by
  refine ⟨fun pins s σ H Q I h => Call_ (ld_blt I hg hm PySem.boot_len (PyProof.Rows.callWith_builtin1 (PyProof.Rows.args_cons (Call_ (ld_blt I hg2 hm2 PyProof.Rows.boot_set ?_)) rfl) rfl rfl))⟩
  refine PyProof.Rows.callWith_type1 (PyProof.Rows.args_cons (thn (ha.run pins s σ H _ I h) fun v s1 ⟨x, H1, I1, r1, l, ns, ex, hq, hl, q1⟩ => PyProof.Rows.args_nil ?_) na) na rfl
  subst ex
  obtain rfl : v = Value.ref l := r1
  obtain ⟨its, rv, pl, hz⟩ := I1.tuple hq
  refine call_set_tupI ns (I1.ok.hd hc) pl (by simpa using ints_vals rv) (by unfold scanBound; omega) fun h' tk n hS hn hk => PyProof.Rows.args_nil ?_
  obtain ⟨ob, ents, ep, tb, ho, hex, hd, hgood, hnd, hmem, _, hf, hsz, _⟩ := hS
  have e1 : ents.size = (uniq ns).length := by
    rw [← Array.length_toList, ← List.length_map (as := ents.toList) keyOf]
    exact same_len hnd (uniq_nodup ns) fun k => by rw [← hmem, mem_uniq, decide_eq_true_iff]
  have I2 : Inv X pins σ H1 { s1 with heap := h', toks := tk } := I1.kept hk
  refine call_len_set ho hex hd hf (by omega) ⟨.int (uniq ns).length, H1, I2.tok _, ⟨_, by rw [e1]⟩, q1⟩
theorem ev_lenSet {p p2 q pos : Pos} (hc : X.calm = true) (hg : Gl X "len") (hm : X.mg "len" = none) (hg2 : Gl X "set") (hm2 : X.mg "set" = none) (ha : Ev X W a A)
    (na : starEach [a] X.env = (false, eval a X.env) :: starEach [] X.env := by rfl) : Ev X W (.Call (.Name "len" p) [.Call (.Name "set" p2) [a] [] q] [] pos) (dLenSet A) :=
  ⟨pe_imp (pe_lenSetT hc hg hm hg2 hm2 ha.pe na) fun σ H Q ⟨δ, S, w, r, he, p⟩ => ⟨δ, S, w, r, he, p.bnd.mono fun x S1 w1 H1 e1 r1 p1 v hv => by
    obtain ⟨d, h1, p1⟩ := p1.up r1
    cases x with
    | tup ds =>
      obtain ⟨ns, h2, h3⟩ := Option.bind_eq_some_iff.mp (show ((intsOf ds).bind fun ns => if ns.length ≤ 4000 then some (D.int (uniq ns).length) else none) = some d from h1)
      obtain ⟨hl, e⟩ := some_if h3
      subst e
      obtain ⟨p, xs, e2, h4, h5⟩ := hv
      refine ⟨p, ns, e2, ?_, hl, p1 _ rfl⟩
      rw [← intsOf_ok h5 h2]
      exact r1.sqT h4
    | _ => cases h1⟩⟩

/-! ### len({e for .. in ..}), keys -/
/-- the block's readings: Z the new set's place -/
def tSk (P : Program) (w : World) (wi : TI) (g : TG) (tt : TT) (te : TE) (vs : List Nat) : TE := fun σ H Q => wi σ H fun J H1 => ∀ Z, H1 Z = none → ∃ M : Nat → Nat → Hp → Prop, (∃ m, M 0 m (upd H1 Z (SetK P w Z (fun _ => false) 0))) ∧ ∀ i m H, M i m H →
  (J.stop i H ∧ Q (.ref Z) H) ∨ (J.go i H ∧ ∃ N : Hp → Prop, (∀ H', N H' → ∃ m', m' < m ∧ M (i + 1) m' H') ∧ ∀ x H', J.yld i H x H' → g x (wipe σ vs) H' fun σ2 H2 => wipe σ2 vs = wipe σ vs ∧ tt σ2 H2 fun b H3 =>
    if b = true then te σ2 H3 fun y H4 => ∃ (key : Key) (T : Key → Bool) (n : Nat), y = kV key ∧ H4 Z = some (SetK P w Z T n) ∧ n + 1 < scanBound ∧ N (upd H4 Z (SetK P w Z (fun j => T j || decide (j = key)) (if T key = true then n else n + 1))) else N H3)
theorem setK_fresh {P : Program} (w : World) (h : Heap) : (h.push { cls := .type "set", dict := none, data := .set #[] 0 (.fresh 0 0 (!w.params.followText "set-order")) }).SetOf (mixKind P w) h.objs.size (fun _ => false) 0 :=
  ⟨_, #[], 0, _, Heap.get?_push_size _ rfl, ⟨rfl, rfl, rfl⟩, rfl, (fun e he => by simp at he), (fun k => by simp), (by decide), (by rfl), rfl⟩
theorem addK_ok {pins : List (Addr × Obj)} {σ : L2.St} {H : Hp} {s : Shared} {E : Value → Shared → Prop} {Z : Addr} {T : Key → Bool} {n : Nat} {key : Key} {z : Value} {Q : Value → Shared → Prop} (I : Inv X pins σ H s) (hZ : H Z = some (SetK X.prog X.w Z T n)) (room : n + 1 < scanBound) (r : RelV (kV key) z)
    (h : ∀ s', Inv X pins σ (upd H Z (SetK X.prog X.w Z (fun j => T j || decide (j = key)) (if T key = true then n else n + 1))) s' → Q .none s') : wpAny (model X.prog X.w) X.A (call (.builtin "set.add") [.ref Z, z]) Q E s :=
  call_set_add (kV_is r) (key_scan r) (setK_get I hZ) room fun h' sb new => by
    have there : ∃ u, h'.get? Z = some u := by
      obtain ⟨o, _, _, _, e, _⟩ := id new
      exact ⟨o, e⟩
    exact h _ (I.write (e := Z) (t' := s.toks + 1) (by rw [hZ]; trivial) (.inl rfl) (fun b u hb e => (sb.2 b hb).trans e) there (setK_new new))
theorem pe_sk {elt tg iter : Expr} {ifs : List Expr} {scope : Scope} {own : List (Str × Nat)} {wi : TI} {g : TG} {tt : TT} {te : TE} (hc : X.calm = true) (hN : X.N.Nodup) (hi : PI X tg iter wi) (ok : BlkOk X.N X.env.scope scope own)
    (hg : ∀ (s : Shared) (H : Hp) (C : Addr) (cl : List (Str × Addr)) (fp : List Addr), PG (X.blk s H scope (compEnvC scope cl C X.env) fp) tg g) (ht : ∀ (s : Shared) (H : Hp) (C : Addr) (cl : List (Str × Addr)) (fp : List Addr), PTs (X.blk s H scope (compEnvC scope cl C X.env) fp) ifs tt)
    (hE : ∀ (s : Shared) (H : Hp) (C : Addr) (cl : List (Str × Addr)) (fp : List Addr), PE (X.blk s H scope (compEnvC scope cl C X.env) fp) elt te) (hs : ∀ x, foldedSetIterable iter X.env x = pure x) : PE X (.SetComp elt [⟨tg, iter, ifs, 0⟩] scope pos) (tSk X.prog X.w wi g tt te (own.map (·.2))) := by
  refine ⟨fun pins s σ H Q I h => ?_⟩
  rw [PpSet.eval_SetComp]
  have frees : ∀ y ∈ scope.names, y.2 = .free → ∃ c, X.env.cells.lookup y.1 = some c := fun y hy e => I.ok.has _ ((ok.free y hy e).imp id id)
  refine wpAny_comprehension_free (use := none) rfl hs (closure_ok frees) ok.kind (fun y hy e => by rw [ok.uniq y hy, e]) (thn (hi.run pins s σ H _ I h) fun xv t1 hx => thn hx fun itv t2 ⟨it, fp, tn, J, H2, eit, I2, T, st2, f2, q⟩ => ?_)
  subst eit
  refine PpSet.newSet_ok (newEnv_comp ?_)
  generalize hZ : t2.heap.objs.size = Z
  obtain ⟨M, ⟨m0, begin⟩, turn⟩ := q Z (I2.hok.fresh (Nat.le_of_eq hZ))
  generalize hs3 : ({ t2 with heap := t2.heap.push { cls := .type "set", dict := none, data := .set #[] 0 (.fresh 0 0 (!X.w.params.followText "set-order")) } } : Shared) = s3
  have h3 : s3.heap = t2.heap.push { cls := .type "set", dict := none, data := .set #[] 0 (.fresh 0 0 (!X.w.params.followText "set-order")) } := by rw [← hs3]
  generalize hG : upd H2 Z (SetK X.prog X.w Z (fun _ => false) 0) = G at begin
  have I3 : Inv X pins σ G s3 := by
    rw [← hs3, ← hG]
    refine I2.laid (t' := t2.toks) (fun _ _ e => Heap.get?_push_of_some _ e) (Nat.le_of_eq hZ) ?_
    rw [← hZ]
    exact setK_new (setK_fresh X.w t2.heap)
  have low : ∀ b ∈ fp, b < t2.heap.objs.size := fun b hb => by
    obtain ⟨o, e, _⟩ := T.obj _ _ st2 b hb
    exact Heap.lt_size e
  have f3 : ∀ b ∈ fp, FpOk X pins G b ∧ b < s3.heap.objs.size := fun b hb => by
    have lb := low b hb
    refine ⟨⟨?_, (f2 b hb).2⟩, by rw [h3, Heap.size_push]; exact Nat.lt_succ_of_lt lb⟩
    rw [← hG, upd_ne (by rw [← hZ]; exact Nat.ne_of_lt lb)]
    exact (f2 b hb).1
  have st3 : tn 0 s3.heap := T.keep _ _ _ st2 fun b _ o e => by rw [h3]; exact Heap.get?_push_of_some _ e
  have I4 := block_start I3 ok hN f3
  show codeAny _ _ (.compStart (.SetComp elt [⟨tg, iter, ifs, 0⟩] scope pos) 0 (.ref it) (.ref Z) (compEnvC scope (cellsFrom (s3.heap.objs.size + 1) scope.names (cloFrom X.env.cells scope.names [])) s3.heap.objs.size X.env)) (compPost (model X.prog X.w) X.A X.xe none (EP X pins σ Q) (.ref Z) s3.heap.objs.size) { s3 with heap := pushCells (s3.heap.push { cls := .type "dict", data := .dict #[] }) scope.names }
  generalize hcl : cellsFrom (s3.heap.objs.size + 1) scope.names (cloFrom X.env.cells scope.names []) = cl at I4 ⊢
  have rg := hg s3 G s3.heap.objs.size cl fp
  have rt := ht s3 G s3.heap.objs.size cl fp
  have re := hE s3 G s3.heap.objs.size cl fp
  have clear : ∀ b ∈ fp, G b = none := fun b hb => (f3 b hb).1.1
  generalize hce : compEnvC scope cl s3.heap.objs.size X.env = ce at I4 rg rt re ⊢
  have home : ce.locals = s3.heap.objs.size := by subst hce; rfl
  generalize hs4 : ({ s3 with heap := pushCells (s3.heap.push { cls := .type "dict", data := .dict #[] }) scope.names } : Shared) = s4 at I4 ⊢
  have st4 : tn 0 s4.heap := T.keep _ _ _ st3 fun b _ o e => by rw [← hs4]; exact pushCells_keeps _ _ _ _ (Heap.get?_push_of_some _ e)
  have stands : ∀ {σ' : L2.St} {H' : Hp} {s' : Shared}, Inv (X.blk s3 G scope ce fp) [] σ' H' s' → (∀ b ∈ fp, H' b = none) → ∀ b ∈ fp, FpOk (X.blk s3 G scope ce fp) [] H' b := fun J2 hn b hb =>
    ⟨hn b hb, (J2.ok.exf b hb).1, J2.ok.exfs b hb, .inl hb, fun x c e => (J2.ok.exf b hb).2 x c e, fun p hp => nomatch (show p ∈ ([] : List (Addr × Obj)) from hp)⟩
  have loop : codeAny (model X.prog X.w) X.A (.compLoop (.SetComp elt [⟨tg, iter, ifs, 0⟩] scope pos) 0 (.ref it) (.ref Z) ce) (compPost (model X.prog X.w) X.A X.xe none (EP X pins σ Q) (.ref Z) s3.heap.objs.size) s4 := by
    refine PpSet.compLoopS_any (fun n s' => ∃ i H', Inv (X.blk s3 G scope ce fp) [] (wipe σ (own.map (·.2))) H' s' ∧ tn i s'.heap ∧ (∀ b ∈ fp, H' b = none) ∧ M i n H') ?_ m0 ⟨0, G, I4, st4, clear, begin⟩
    rintro n u ⟨i, V5, J5, st5, n5, m5⟩
    rcases turn i n V5 m5 with ⟨stop, fin⟩ | ⟨go, N, hN2, step⟩
    · refine thnF (T.done (X.blk s3 G scope ce fp) rfl rfl rfl hc i [] u _ V5 (fun _ _ => False) J5 (stands J5 n5) st5 stop) fun r s6 ⟨hr, J6⟩ => ?_
      subst hr
      have back : Inv X pins σ V5 s6 := I3.call' (ch := fp) J6.os J6.base J6.hok J6.bare fun b hb => ⟨(f3 b hb).1.2.2.2.1, (f3 b hb).1.2.1, (f3 b hb).1.2.2.2.2.1, (f3 b hb).1.2.2.2.2.2⟩
      have gone : V5 ce.locals = none := J6.free
      obtain ⟨m, ns, _⟩ := J6.loc
      have ns' : s6.heap.Ns ce.locals m := ns
      rw [home] at gone ns'
      obtain ⟨g0, g1, g2, g3, g4, g5⟩ := I3.fpOk (Nat.le_refl _) gone
      exact ⟨m, ns', fun h'' sb => ⟨.ref Z, V5, back.turned (t' := s6.toks) (fun b o hb e => (sb.2 b hb).trans e) g0 g1 g3 g4 g5, rfl, fin⟩⟩
    · refine thnF (T.item (X.blk s3 G scope ce fp) rfl rfl rfl hc i [] u _ V5 (fun _ _ => False) J5 (stands J5 n5) st5 go) fun r s6 ⟨v, hr, h6⟩ => ?_
      subst hr
      refine thnF h6 fun _ s7 ⟨x, V7, J7, r7, y7, st7, n7⟩ => ?_
      refine thnF (rg.run _ s7 _ V7 x v _ (J7.pinned (stands J7 n7) (T.obj _ _ st7)) r7 (step x V7 y7)) fun _ s8 ⟨σ8, V8, J8, same, q8⟩ => ?_
      refine thnF (rt.run _ s8 σ8 V8 _ J8 q8) fun b s9 ⟨V9, J9, q9⟩ => ?_
      have next : ∀ {s' : Shared} {H' : Hp}, Inv (X.blk s3 G scope ce fp) ([] ++ pinsAt fp s7.heap) σ8 H' s' → N H' → ∃ m, m < n ∧ ∃ i H', Inv (X.blk s3 G scope ce fp) [] (wipe σ (own.map (·.2))) H' s' ∧ tn i s'.heap ∧ (∀ b ∈ fp, H' b = none) ∧ M i m H' := fun {s' H'} J' nx => by
        obtain ⟨m', lt, at'⟩ := hN2 H' nx
        have held : ∀ b ∈ fp, ∀ o, s7.heap.get? b = some o → s'.heap.get? b = some o ∧ H' b = none := fun b hb o e =>
          have z := J'.pin (b, o) (List.mem_append_right _ (List.mem_append_right _ (mem_pinsAt hb e)))
          ⟨z.1, z.2.1⟩
        have wl : (wipe σ (own.map (·.2))).length = σ8.length := by rw [← same, wipe_length]
        refine ⟨m', lt, i + 1, H', (J'.unpinned (pins := [])).weak wl (fun j v e => ?_), T.keep _ _ _ st7 fun b hb o e => (held b hb o e).1, fun b hb => ?_, at'⟩
        · rw [← same] at e
          exact (wipe_some e).1
        · obtain ⟨o, e, _⟩ := T.obj _ _ st7 b hb
          exact (held b hb o e).2
      cases b with
      | false =>
        rw [if_neg Bool.false_ne_true] at q9
        exact next J9 q9
      | true =>
        rw [if_pos rfl] at q9
        refine thnF (re.run _ s9 σ8 V9 _ J9 q9) fun z s10 ⟨yv, V10, J10, r10, key, T0, n0, ey, hZ10, room, nx⟩ => ?_
        subst ey
        exact addK_ok (X := X.blk s3 G scope ce fp) J10 hZ10 room r10 fun s11 J11 => next J11 nx
  exact PpSet.codeAny_compStart_set loop (T.self X.A 0 _ _ _ st4 loop)
/-- len of such a set -/
def rLenSk (P : Program) (w : World) : List V → Hp → VK → Prop := fun xs H Q => ∃ a T n, xs = [.ref a] ∧ H a = some (SetK P w a T n) ∧ Q (.int (n : Nat)) H
theorem call_lenSk : CallR X (.builtin "len") (rLenSk X.prog X.w) := fun pins s σ H xs us Q I r ⟨a, T, n, ex, ha, q⟩ => by
  subst ex
  obtain ⟨u, rfl, ru⟩ := vals1 r
  obtain rfl : u = Value.ref a := ru
  obtain ⟨ob, ents, ep, tb, ho, hex, hd, _, _, hb, hf, hsz⟩ := setK_get I ha
  refine call_len_set ho hex hd hf (by unfold scanBound at hb; omega) ⟨.int (n : Nat), H, I.tok _, ⟨_, by rw [hsz]⟩, q⟩
def hasK (acc : List Key) (k : Key) : Bool := acc.any fun j => decide (j = k)
/-- the keys that come, each once -/
def skD (vs : List Nat) (G : DG) (T : DT) (A : DE) : List D → Env → Sto → List Key → Option (Out (List Key))
  | [], _, S, acc => some (.ok acc S)
  | d :: ds, δ, S, acc => match G d (wipeD δ vs) S with
    | none => none
    | some δ1 => bndL (T δ1 S) fun b S1 => if b = true then bndL (A δ1 S1) fun y S2 => match kOf y with
        | some key => if acc.length < 4000 then skD vs G T A ds δ S2 (if hasK acc key = true then acc else acc ++ [key]) else none
        | none => none
      else skD vs G T A ds δ S1 acc
def dLenSk (I : DI) (vs : List Nat) (G : DG) (T : DT) (A : DE) : DE := fun δ S => bnd (I δ S) fun ds S1 => bnd (skD vs G T A ds δ S1 []) fun ks S2 => some (Out.ok (D.int (ks.length : Nat)) S2)
theorem sk_run {K : PySem.W.Frag} {P : Program} {wd : World} {σ : L2.St} {I : DI} {vs ws : List Nat} {G : DG} {T : DT} {A : DE} {Q : VK} (hw : ∀ i ∈ ws, i ∈ vs) {H : Hp} (h : TEv K W (dLenSk I vs G T A) σ H Q) :
    tSk P wd (TIv K W I) (TGv K ws G) (TTv K WF T) (TEv K WF A) vs σ H (fun v H' => rLenSk P wd [v] H' Q) := by
  obtain ⟨δ, S, w, r, he, p⟩ := h
  refine ⟨δ, S, w, r, he, p.bnd.mono fun ds S1 w1 H1 e1 r1 p1 J hJ Z hZ => ?_⟩
  have zH : w1.H Z = none := r1.free hZ
  have zF : w1.F Z = none := by
    cases q : w1.F Z with
    | none => rfl
    | some o =>
      have := (r1.frm Z o q).1
      rw [hZ] at this
      cases this
  have kn0 : ∀ o, w1.Kn (w1.frame Z o) := fun o => ⟨fun _ _ e => e, Nat.le_refl _, fun _ _ => rfl⟩
  refine ⟨fun i m H' => m = ds.length - i ∧ ∃ (acc : List Key) (mem : Key → Bool) (S' : Sto) (w' : Wd), (∀ j, mem j = hasK acc j) ∧ w1.Kn w' ∧ w'.F = upd w1.F Z (SetK P wd Z mem acc.length) ∧ Rep K S' w' H' ∧ Po K W σ w1 (bnd (skD vs G T A (ds.drop i) δ S' acc) fun ks S2 => some (Out.ok (D.int (ks.length : Nat)) S2)) (Got K Q),
    ⟨_, rfl, [], _, S1, _, (fun j => rfl), kn0 _, rfl, r1.frame hZ _, p1⟩, ?_⟩
  rintro i m H' ⟨rfl, acc, mem, S', w', hm, kn, hF, r', p'⟩
  obtain ⟨hgo, hst⟩ := hJ i S' w' H' kn r'
  have atZ : w'.F Z = some (SetK P wd Z mem acc.length) := by rw [hF, upd_same]
  cases hd : ds[i]? with
  | none =>
    have hi : ds.length ≤ i := List.getElem?_eq_none_iff.mp hd
    rw [List.drop_of_length_le hi] at p'
    refine .inl ⟨hst hi, Z, mem, acc.length, rfl, (r'.frm Z _ atZ).1, ?_⟩
    have r2 : Rep K S' { w' with F := w1.F } H' := ⟨r'.sub, r'.len, fun k o e => by
      obtain ⟨g1, g2⟩ := r'.obs k o e
      exact ⟨g1, ObAt.kn (w := w') (w' := { w' with F := w1.F }) ⟨fun _ _ e => e, Nat.le_refl _, fun _ _ => rfl⟩ rfl g2⟩, r'.inj, fun b o e => by
      have e' : w1.F b = some o := e
      have hb : b ≠ Z := fun q => by
        rw [q, zF] at e'
        cases e'
      exact r'.frm b o (by rw [hF, upd_ne hb]; exact e')⟩
    exact p' { w' with F := w1.F } H' ⟨kn.h, kn.n, kn.a, rfl⟩ r2 _ rfl
  | some d =>
    have hi : i < ds.length := (List.getElem?_eq_some_iff.mp hd).1
    obtain ⟨g1, g2⟩ := hgo d hd
    refine .inr ⟨g1, fun H2 => ∃ (acc : List Key) (mem : Key → Bool) (S' : Sto) (w' : Wd), (∀ j, mem j = hasK acc j) ∧ w1.Kn w' ∧ w'.F = upd w1.F Z (SetK P wd Z mem acc.length) ∧ Rep K S' w' H2 ∧ Po K W σ w1 (bnd (skD vs G T A (ds.drop (i + 1)) δ S' acc) fun ks S2 => some (Out.ok (D.int (ks.length : Nat)) S2)) (Got K Q), fun H2 h2 => ⟨ds.length - (i + 1), by omega, rfl, h2⟩, fun x H2 y => ?_⟩
    obtain ⟨w2, e2, r2, hx2⟩ := g2 x H2 y
    rw [drop_cons hd] at p'
    have p2 : Po K W σ w1 (bnd (match G d (wipeD δ vs) S' with
      | none => none
      | some δ1 => bndL (T δ1 S') fun b S1 => if b = true then bndL (A δ1 S1) fun y S2 => match kOf y with
          | some key => if acc.length < 4000 then skD vs G T A (ds.drop (i + 1)) δ S2 (if hasK acc key = true then acc else acc ++ [key]) else none
          | none => none
        else skD vs G T A (ds.drop (i + 1)) δ S1 acc) fun ks S2 => some (Out.ok (D.int (ks.length : Nat)) S2)) (Got K Q) := p'
    cases q : G d (wipeD δ vs) S' with
    | none =>
      rw [q] at p2
      exact p2.elim
    | some δ1 =>
      rw [q] at p2
      have kn2 : w1.Kn w2 := ⟨fun b o e => e2.h b o (kn.h b o e), Nat.le_trans kn.n e2.n, fun k hk => (e2.a k (Nat.lt_of_lt_of_le hk kn.n)).trans (kn.a k hk)⟩
      refine ⟨d, wipeD δ vs, S', w2, δ1, r2, wipe_env ((he.kn e1.kn).kn kn2) vs, hx2, q, fun σ3 w3 H3 e3 r3 he3 hbut => ⟨wipe_but hbut hw, ?_⟩⟩
      have p3 : Po K W σ w1 (bnd (bndL (T δ1 S') fun b S1 => if b = true then bndL (A δ1 S1) fun y S2 => match kOf y with
          | some key => if acc.length < 4000 then skD vs G T A (ds.drop (i + 1)) δ S2 (if hasK acc key = true then acc else acc ++ [key]) else none
          | none => none
        else skD vs G T A (ds.drop (i + 1)) δ S1 acc) fun ks S2 => some (Out.ok (D.int (ks.length : Nat)) S2)) (Got K Q) := p2
      cases qT : T δ1 S' with
      | none =>
        rw [qT] at p3
        exact p3.elim
      | some oT =>
        cases oT with
        | exc x S9 =>
          rw [qT] at p3
          exact p3.elim
        | ok b S4 =>
          rw [qT, bndL_ok] at p3
          refine ⟨δ1, S', w3, r3, he3, ?_⟩
          rw [qT]
          refine fun w4 H4 e4 r4 => ?_
          have kn4 : w1.Kn w4 := ⟨fun b o e => e4.h b o (e3.h b o (kn2.h b o e)), Nat.le_trans kn2.n (Nat.le_trans e3.n e4.n), fun k hk => by
            have l2 := Nat.lt_of_lt_of_le hk kn2.n
            have l3 := Nat.lt_of_lt_of_le l2 e3.n
            exact (e4.a k l3).trans ((e3.a k l2).trans (kn2.a k hk))⟩
          have F4 : w4.F = upd w1.F Z (SetK P wd Z mem acc.length) := e4.f.trans (e3.f.trans (e2.f.trans hF))
          cases b with
          | false =>
            rw [if_neg Bool.false_ne_true] at p3
            exact iteF ⟨acc, mem, S4, w4, hm, kn4, F4, r4, p3⟩
          | true =>
            rw [if_pos rfl] at p3
            refine iteT ⟨δ1, S4, w4, r4, he3.le e4, ?_⟩
            cases qA : A δ1 S4 with
            | none =>
              rw [qA] at p3
              exact p3.elim
            | some oA =>
              cases oA with
              | exc x S9 =>
                rw [qA] at p3
                exact p3.elim
              | ok y2 S5 =>
                rw [qA, bndL_ok] at p3
                cases qk : kOf y2 with
                | none =>
                  simp only [qk] at p3
                  exact p3.elim
                | some key =>
                  simp only [qk] at p3
                  by_cases hl : acc.length < 4000
                  · rw [if_pos hl] at p3
                    intro w5 H5 e5 r5 v hv
                    have F5 : w5.F Z = some (SetK P wd Z mem acc.length) := by rw [e5.f, F4, upd_same]
                    refine ⟨key, mem, acc.length, kOf_at hv qk, (r5.frm Z _ F5).1, by unfold scanBound; omega, (if hasK acc key = true then acc else acc ++ [key]), fun j => mem j || decide (j = key), S5, w5.frame Z (SetK P wd Z (fun j => mem j || decide (j = key)) (if hasK acc key = true then acc else acc ++ [key]).length), fun j => ?_, ⟨fun b o e => e5.h b o (kn4.h b o e), Nat.le_trans kn4.n e5.n, fun k hk => (e5.a k (Nat.lt_of_lt_of_le hk kn4.n)).trans (kn4.a k hk)⟩, ?_, ?_, p3⟩
                    · show (mem j || decide (j = key)) = _
                      rw [hm j]
                      cases hk : hasK acc key with
                      | true =>
                        rw [if_pos rfl]
                        by_cases hj : j = key
                        · rw [hj, hk, decide_eq_true rfl]
                          rfl
                        · rw [decide_eq_false hj, Bool.or_false]
                      | false =>
                        rw [if_neg Bool.false_ne_true]
                        unfold hasK
                        rw [List.any_append, List.any_cons, List.any_nil, Bool.or_false]
                        congr 1
                        by_cases hj : j = key
                        · rw [hj]
                        · rw [decide_eq_false hj, decide_eq_false fun q => hj q.symm]
                    · show upd w5.F Z _ = _
                      rw [e5.f, F4, upd_upd]
                    · have hlen : (if mem key = true then acc.length else acc.length + 1) = (if hasK acc key = true then acc else acc ++ [key]).length := by
                        rw [hm key]
                        cases hk : hasK acc key with
                        | true => rw [if_pos rfl, if_pos rfl]
                        | false => rw [if_neg Bool.false_ne_true, if_neg Bool.false_ne_true, List.length_append, List.length_singleton]
                      rw [hlen]
                      exact r5.framed F5
                  · rw [if_neg hl] at p3
                    exact p3.elim
theorem ev_lenSk {elt tg iter : Expr} {ifs : List Expr} {scope : Scope} {own : List (Str × Nat)} {I : DI} {ws : List Nat} {G : DG} {T : DT} {p pos2 : Pos} (hgl : Gl X "len") (hm : X.mg "len" = none) (hc : X.calm = true) (hN : X.N.Nodup) (hi : Iv X W tg iter I) (ok : BlkOk X.N X.env.scope scope own)
    (hg : ∀ (s : Shared) (H : Hp) (C : Addr) (cl : List (Str × Addr)) (fp : List Addr), Gv (X.blk s H scope (compEnvC scope cl C X.env) fp) tg ws G) (ht : ∀ (s : Shared) (H : Hp) (C : Addr) (cl : List (Str × Addr)) (fp : List Addr), Tsv (X.blk s H scope (compEnvC scope cl C X.env) fp) WF ifs T)
    (he : ∀ (s : Shared) (H : Hp) (C : Addr) (cl : List (Str × Addr)) (fp : List Addr), Ev (X.blk s H scope (compEnvC scope cl C X.env) fp) WF elt A) (hs : ∀ x, foldedSetIterable iter X.env x = pure x := by intro _; rfl) (hw : ∀ i ∈ ws, i ∈ own.map (·.2) := by decide)
    (hse : starEach [.SetComp elt [⟨tg, iter, ifs, 0⟩] scope pos2] X.env = (false, eval (.SetComp elt [⟨tg, iter, ifs, 0⟩] scope pos2) X.env) :: starEach [] X.env := by rfl) (hpl : (backTo pos (starEach [] X.env)).any (·.1) = false := by rfl) :
    Ev X W (.Call (.Name "len" p) [.SetComp elt [⟨tg, iter, ifs, 0⟩] scope pos2] [] pos) (dLenSk I (own.map (·.2)) G T A) :=
  ⟨pe_imp (pe_callB call_lenSk hgl hm PySem.boot_len (pa_cons (pe_sk hc hN hi.pi ok (fun s H C cl fp => (hg s H C cl fp).pg) (fun s H C cl fp => (ht s H C cl fp).pts) (fun s H C cl fp => (he s H C cl fp).pe) hs) pa_nil hse) (he := hse) (hpl := hpl)) fun σ H Q h => sk_run hw h⟩
end
end Cw

set_option maxRecDepth 100000
set_option maxHeartbeats 2000000
set_option linter.all false
/-! A def as callers see it; short names for what the printed proofs use. -/
namespace Cw
open PySem PySem.Spec PyProof.Rows L2

/-- the def at x: ps its parameters, ds0 the defaults that fill up from behind -/
structure Cal (P : Program) (w : World) (K : PySem.W.Frag) (mg : Str → Option Value) (base : Heap) (x : Str) (k : Nat) (ps : List Str) (ds0 : List D) (F : Fn) : Prop where
  ex : ∃ (f : Addr) (fd : FuncData) (dvs : List V) (us0 : List Value), mg x = some (.ref f) ∧ PySem.W.keepIn K (.ref f) = true ∧ Binds K fd ps us0 ∧ Vals dvs us0 ∧ (∀ w, Dats K w ds0 dvs) ∧ GnOk P w K mg base k f fd ps F
/-- called with keywords ks behind n written values -/
structure CalK (P : Program) (w : World) (K : PySem.W.Frag) (mg : Str → Option Value) (base : Heap) (x : Str) (k : Nat) (ps : List Str) (n : Nat) (ks : List Str) (gD : List D → List D → List D) (F : Fn) : Prop where
  ex : ∃ (f : Addr) (fd : FuncData) (gu : List Value → List Value → List Value) (gV : List V → List V → List V), mg x = some (.ref f) ∧ PySem.W.keepIn K (.ref f) = true ∧ KBn K fd ps n ks gu gV ∧ (∀ w xs zs vs us, Dats K w xs vs → Dats K w zs us → Dats K w (gD xs zs) (gV vs us)) ∧ GnOk P w K mg base k f fd ps F
section
variable {P : Program} {w : World} {K : PySem.W.Frag} {mg : Str → Option Value} {base : Heap} {x qual : Str} {params : Arguments} {bd : List Stmt} {scope : Scope} {f : Addr} {fd : FuncData} {k : Nat} {ps : List Str} {F : Fn}
theorem cal_of (D : FunD K x qual params bd scope [] [] f fd) (hm : mg x = some (.ref f)) (g : GnOk P w K mg base k f fd ps F)
    (h : ∀ (kV doc pm : Value) (an : Option Addr) (cdv ct : Value) (us : List Value), us.length = ps.length → bindArgs (PySem.W.fnOf x qual params bd scope .none kV doc pm an cdv ct) ⟨us, []⟩ = pure (ps.zip us)) : Cal P w K mg base x k ps [] F :=
  ⟨f, fd, [], [], hm, D.kp, D.bindsN h, .nil, fun _ => Dats.nil, g⟩
theorem cal_kw {kws : List (Str × V)} {ds0 : List D} (D : FunD K x qual params bd scope [] kws f fd) (hm : mg x = some (.ref f)) (g : GnOk P w K mg base k f fd ps F) (n : Nat) (hk : kws ≠ []) (hn : n + kws.length = ps.length)
    (h : ∀ (D : Addr) (doc pm : Value) (an : Option Addr) (cdv ct : Value) (us ks : List Value), us.length = n → ks.length = kws.length → KwChain D ((kws.map (·.1)).zip ks) (bindArgs (PySem.W.fnOf x qual params bd scope .none (.ref D) doc pm an cdv ct) ⟨us, []⟩) (ps.zip (us ++ ks)))
    (h0 : ∀ w, Dats K w ds0 (kws.map (·.2))) : Cal P w K mg base x k ps ds0 F := by
  obtain ⟨us0, h1, h2⟩ := D.binds0 n hk hn h
  exact ⟨f, fd, _, us0, hm, D.kp, h2, h1, h0, g⟩
theorem calK_of {kws : List (Str × V)} {n : Nat} {ks : List Str} (D : FunD K x qual params bd scope [] kws f fd) (hm : mg x = some (.ref f)) (g : GnOk P w K mg base k f fd ps F)
    (h : ∀ (dV kV doc pm : Value) (an : Option Addr) (cdv ct : Value) (us ws : List Value), us.length = n → ws.length = ks.length → bindArgs (PySem.W.fnOf x qual params bd scope .none kV doc pm an cdv ct) ⟨us, ks.zip ws⟩ = pure (ps.zip (us ++ ws))) : CalK P w K mg base x k ps n ks (· ++ ·) F := by
  have kp := D.kp
  obtain ⟨oc, od, dV, kV, doc, pm, an, cdv, ct, osl, rfl, lk, hcd, hD, hK⟩ := D.ex
  rcases hD with ⟨_, rfl⟩ | ⟨e, _⟩
  · exact ⟨f, _, _, _, hm, kp, kbn_tail fun s us ws h1 h2 => .of_eq (h .none kV doc pm an cdv ct us ws h1 h2), dats_tail, g⟩
  · exact absurd rfl e
theorem GnOk.imp2 {F' : Fn} (g : GnOk P w K mg base k f fd ps F) (h : ∀ ds S r, ds.length = ps.length → F' ds S = some r → Cl K S (F ds S) (some r)) : GnOk P w K mg base k f fd ps F' := g.imp h
end
section
variable {X : Cx} {W : WX} {pos : Pos} {j k : Nat} {ps ks : List Str} {F : Fn} {ds0 : List D} {x : Str} {p : Pos} {e a : Expr} {es : List Expr} {A : DA}
theorem ev_cal (h : Cal X.prog X.w X.K X.mg X.base x j ps ds0 F) (hr : Rdy X W k) (ha : Av X W (e :: es) A) (hg : Gl X x := by rfl) (hj : j ≤ k := by decide)
    (hdb : (x == ("__debug__" : Str)) = false := by decide) (he : starEach (e :: es) X.env = (false, eval e X.env) :: starEach es X.env := by rfl) (hpl : (backTo pos (starEach es X.env)).any (·.1) = false := by rfl) :
    Ev X W (.Call (.Name x p) (e :: es) [] pos) (dCall F ps.length ds0 A) := by
  obtain ⟨f, fd, dvs, us0, h1, h2, h3, h4, h5, h6⟩ := h.ex
  exact ev_call h6 (hr.mono hj) hg h1 h2 h3 h4 h5 ha hdb he hpl
theorem ev_calK {kws : List Keyword} {n : Nat} {gD : List D → List D → List D} {T : DA} (h : CalK X.prog X.w X.K X.mg X.base x j ps n ks gD F) (hr : Rdy X W k) (ha : Av X W (e :: es) A) (hkw : Kv X W kws T) (hg : Gl X x := by rfl) (hj : j ≤ k := by decide) (hall : (backToKw pos (keywordEach kws X.env)).all (·.1.isSome) = true := by rfl) (hks : (backToKw pos (keywordEach kws X.env)).filterMap (·.1) = ks := by rfl)
    (hdb : (x == ("__debug__" : Str)) = false := by decide) (he : starEach (e :: es) X.env = (false, eval e X.env) :: starEach es X.env := by rfl)
    (hpl : ((backTo pos (starEach (e :: es) X.env)).any (·.1) || (backToKw pos (keywordEach kws X.env)).any (·.1.isNone)) = false := by rfl) : Ev X W (.Call (.Name x p) (e :: es) kws pos) (dCallK F n ks.length ps.length gD A T) := by
  obtain ⟨f, fd, gu, gV, h1, h2, h3, h4, h5⟩ := h.ex
  exact ev_callK h5 (hr.mono hj) hg h1 h2 h3 h4 ha hkw hall hks hdb he hpl
theorem evG_cb {id : String} {g : List D → Sto → Option (D × Sto)} (hc : CalR X (.builtin id) g) (hm : X.mg x = none) (hv : bootBuiltins x = some (.builtin id)) (ha : Av X W (e :: es) A) (hg : Gl X x := by rfl) (hn : x ≠ "__name__" := by decide) (hdb : (x == ("__debug__" : Str)) = false := by decide)
    (he : starEach (e :: es) X.env = (false, eval e X.env) :: starEach es X.env := by rfl) (hpl : (backTo pos (starEach es X.env)).any (·.1) = false := by rfl) : Ev X W (.Call (.Name x p) (e :: es) [] pos) (dCB g A) := ev_cb hc hg hm hv ha hn hdb he hpl
theorem evG_cty {id : String} {g : List D → Sto → Option (D × Sto)} (hc : CalR X (.type id) g) (hm : X.mg x = none) (hv : bootBuiltins x = some (.type id)) (ha : Av X W (e :: es) A) (hg : Gl X x := by rfl) (hn : x ≠ "__name__" := by decide) (hdb : (x == ("__debug__" : Str)) = false := by decide)
    (he : starEach (e :: es) X.env = (false, eval e X.env) :: starEach es X.env := by rfl) (hpl : (backTo pos (starEach es X.env)).any (·.1) = false := by rfl) : Ev X W (.Call (.Name x p) (e :: es) [] pos) (dCB g A) := ev_cty hc hg hm hv ha hn hdb he hpl
theorem evG_int {i : Int} (hm : ∃ t, X.mg x = some (.int i t)) (hg : Gl X x := by rfl) (hd : (x == ("__debug__" : Str)) = false := by decide) : Ev X W (.Name x pos) (dC (.int i)) := ev_gint hg hm hd
theorem evG_str {i : Str} (hm : ∃ t, X.mg x = some (.str i t)) (hg : Gl X x := by rfl) (hd : (x == ("__debug__" : Str)) = false := by decide) : Ev X W (.Name x pos) (dC (.str i)) := ev_gstr hg hm hd
theorem evG_ty {n : String} (hm : X.mg x = none) (hv : bootBuiltins x = some (.type n)) (hg : Gl X x := by rfl) (hn : x ≠ "__name__" := by decide) (hd : (x == ("__debug__" : Str)) = false := by decide) : Ev X W (.Name x pos) (dC (.ty n)) := ev_ty hg hm hv hn hd
variable {o : Expr} {B : DE} {apos : Pos}
theorem ev_join {L : DA} (ha : Ev X W o B) (hb : Av X W (e :: es) L) (hbase : attributeBase o "join" X.env (eval o X.env) = eval o X.env := by rfl)
    (hfew : ((backTo pos (starEach (e :: es) X.env)).all (fun x => !x.1) && (backToKw pos (keywordEach [] X.env)).all (fun x => x.1.isSome)
      && decide ((e :: es).length + ([] : List Keyword).length + (if ([] : List Keyword).isEmpty then 0 else 1) < 30)) = true := by rfl)
    (hline : (apos.endLine == pos.line) = true := by rfl) (hs : starEach (e :: es) X.env = (false, eval e X.env) :: starEach es X.env := by rfl) (hplain : (backTo pos (starEach es X.env)).any (·.1) = false := by rfl) :
    Ev X W (.Call (.Attribute o "join" apos) (e :: es) [] pos) (dMt "str" joinV B L) := ev_mt PySem.F.plainAttrs_str PySem.F.slot_str_join m_join ha hb PySem.F.type_str_join hbase hfew hline hs hplain
theorem ev_split {L : DA} (ha : Ev X W o B) (hb : Av X W (e :: es) L) (hbase : attributeBase o "split" X.env (eval o X.env) = eval o X.env := by rfl)
    (hfew : ((backTo pos (starEach (e :: es) X.env)).all (fun x => !x.1) && (backToKw pos (keywordEach [] X.env)).all (fun x => x.1.isSome)
      && decide ((e :: es).length + ([] : List Keyword).length + (if ([] : List Keyword).isEmpty then 0 else 1) < 30)) = true := by rfl)
    (hline : (apos.endLine == pos.line) = true := by rfl) (hs : starEach (e :: es) X.env = (false, eval e X.env) :: starEach es X.env := by rfl) (hplain : (backTo pos (starEach es X.env)).any (·.1) = false := by rfl) :
    Ev X W (.Call (.Attribute o "split" apos) (e :: es) [] pos) (dMt "str" splitV B L) := ev_mt PySem.F.plainAttrs_str PySem.F.slot_str_split m_split ha hb PySem.F.type_str_split hbase hfew hline hs hplain
theorem ev_append {L : DA} (ha : Ev X W o B) (hb : Av X W (e :: es) L) (hbase : attributeBase o "append" X.env (eval o X.env) = eval o X.env := by rfl)
    (hfew : ((backTo pos (starEach (e :: es) X.env)).all (fun x => !x.1) && (backToKw pos (keywordEach [] X.env)).all (fun x => x.1.isSome)
      && decide ((e :: es).length + ([] : List Keyword).length + (if ([] : List Keyword).isEmpty then 0 else 1) < 30)) = true := by rfl)
    (hline : (apos.endLine == pos.line) = true := by rfl) (hs : starEach (e :: es) X.env = (false, eval e X.env) :: starEach es X.env := by rfl) (hplain : (backTo pos (starEach es X.env)).any (·.1) = false := by rfl) :
    Ev X W (.Call (.Attribute o "append" apos) (e :: es) [] pos) (dMt "list" appendV B L) := ev_mt PySem.F.plainAttrs_list PySem.F.slot_list_append m_append ha hb PySem.F.type_list_append hbase hfew hline hs hplain
theorem ev_pop {L : DA} (ha : Ev X W o B) (hb : Av X W (e :: es) L) (hbase : attributeBase o "pop" X.env (eval o X.env) = eval o X.env := by rfl)
    (hfew : ((backTo pos (starEach (e :: es) X.env)).all (fun x => !x.1) && (backToKw pos (keywordEach [] X.env)).all (fun x => x.1.isSome)
      && decide ((e :: es).length + ([] : List Keyword).length + (if ([] : List Keyword).isEmpty then 0 else 1) < 30)) = true := by rfl)
    (hline : (apos.endLine == pos.line) = true := by rfl) (hs : starEach (e :: es) X.env = (false, eval e X.env) :: starEach es X.env := by rfl) (hplain : (backTo pos (starEach es X.env)).any (·.1) = false := by rfl) :
    Ev X W (.Call (.Attribute o "pop" apos) (e :: es) [] pos) (dMt "list" popV B L) := ev_mt PySem.F.plainAttrs_list PySem.F.slot_list_pop m_pop ha hb PySem.F.type_list_pop hbase hfew hline hs hplain
end
theorem bt_str : bootBuiltins "str" = some (.type "str") := by decide +kernel
theorem bt_int : bootBuiltins "int" = some (.type "int") := by decide +kernel
theorem bt_bool : bootBuiltins "bool" = some (.type "bool") := by decide +kernel
theorem bt_tuple : bootBuiltins "tuple" = some (.type "tuple") := by decide +kernel
theorem bt_list : bootBuiltins "list" = some (.type "list") := by decide +kernel
theorem bt_dict : bootBuiltins "dict" = some (.type "dict") := by decide +kernel
theorem bf_len : bootBuiltins "len" = some (.builtin "len") := by decide +kernel
theorem bf_all : bootBuiltins "all" = some (.builtin "all") := by decide +kernel
theorem bf_any : bootBuiltins "any" = some (.builtin "any") := by decide +kernel
theorem bf_abs : bootBuiltins "abs" = some (.builtin "abs") := by decide +kernel
theorem bf_min : bootBuiltins "min" = some (.builtin "min") := by decide +kernel
theorem bf_max : bootBuiltins "max" = some (.builtin "max") := by decide +kernel
theorem bf_repr : bootBuiltins "repr" = some (.builtin "repr") := by decide +kernel
theorem bf_isinstance : bootBuiltins "isinstance" = some (.builtin "isinstance") := by decide +kernel
end Cw

set_option maxRecDepth 100000
set_option maxHeartbeats 2000000
set_option linter.all false
/-! What a def owned for itself is forgotten at its end; a list that it hands out is nobody's from then on. -/
namespace Cw
open PySem PySem.Spec PyProof.Rows L2

mutual
/-- it knows owned objects ahead of n alone -/
def lowD (n : Nat) : D → Bool
  | .ref m => decide (m < n)
  | .tup ds => lowDs n ds
  | .lst ds => lowDs n ds
  | .scr ds => lowDs n ds
  | .non => true
  | .bl _ => true
  | .int _ => true
  | .str _ => true
  | .fn _ => true
  | .ty _ => true
def lowDs (n : Nat) : List D → Bool
  | [] => true
  | d :: ds => lowD n d && lowDs n ds
end
def lowA {κ : Type} (n : Nat) : List (κ × D) → Bool
  | [] => true
  | p :: ps => lowD n p.2 && lowA n ps
def lowE (n : Nat) : Env → Bool
  | [] => true
  | some d :: r => lowD n d && lowE n r
  | none :: r => lowE n r
theorem lowE_of {n : Nat} : ∀ {δ : Env}, (∀ (i : Nat) (d : D), δ[i]? = some (some d) → lowD n d = true) → lowE n δ = true
  | [], _ => rfl
  | some d :: r, h => by
    show (lowD n d && lowE n r) = true
    rw [h 0 d rfl, lowE_of fun i e q => h (i + 1) e (by simpa using q)]
    rfl
  | none :: r, h => lowE_of (δ := r) fun i e q => h (i + 1) e (by simpa using q)
theorem lowE_at {n : Nat} : ∀ {δ : Env} {i : Nat} {d : D}, lowE n δ = true → δ[i]? = some (some d) → lowD n d = true
  | [], i, d, _, q => by simp at q
  | some e :: r, 0, d, h, q => by
    have h' : (lowD n e && lowE n r) = true := h
    have e' : e = d := by simpa using q
    rw [← e']
    exact (Bool.and_eq_true_iff.mp h').1
  | none :: r, 0, d, _, q => by simp at q
  | some e :: r, i + 1, d, h, q => by
    have h' : (lowD n e && lowE n r) = true := h
    exact lowE_at (Bool.and_eq_true_iff.mp h').2 (by simpa using q)
  | none :: r, i + 1, d, h, q => lowE_at (δ := r) h (by simpa using q)
def lowO (n : Nat) : Ob → Bool
  | .lst ds => lowDs n ds
  | .dic ks => lowA n ks
  | .ins _ fs => lowA n fs
  | .exn x => match x.fs with
    | none => true
    | some (_, d) => lowD n d
  | .tab _ _ => true
  | .lam L => lowE n L.δ
mutual
theorem low_of {K : PySem.W.Frag} {w : Wd} : ∀ {d : D} {v : V}, Dat K w d v → lowD w.n d = true
  | .ref m, _, h => decide_eq_true h.2
  | .tup ds, _, ⟨_, _, _, _, h⟩ => lows_of (ds := ds) h
  | .lst ds, _, ⟨_, _, _, _, h⟩ => lows_of (ds := ds) h
  | .scr ds, _, ⟨_, _, _, _, h⟩ => lows_of (ds := ds) h
  | .non, _, _ => rfl
  | .bl _, _, _ => rfl
  | .int _, _, _ => rfl
  | .str _, _, _ => rfl
  | .fn _, _, _ => rfl
  | .ty _, _, _ => rfl
theorem lows_of {K : PySem.W.Frag} {w : Wd} : ∀ {ds : List D} {vs : List V}, Dats K w ds vs → lowDs w.n ds = true
  | [], _, _ => rfl
  | d :: ds, _, ⟨_, _, _, h1, h2⟩ => by
    show (lowD w.n d && lowDs w.n ds) = true
    rw [low_of h1, lows_of h2]
    rfl
end
theorem lowA_of {κ : Type} {K : PySem.W.Frag} {w : Wd} : ∀ {ps : List (κ × D)} {xs : List (κ × V)}, DatA K w ps xs → lowA w.n ps = true
  | [], _, _ => rfl
  | p :: ps, _, ⟨_, _, _, h1, h2⟩ => by
    show (lowD w.n p.2 && lowA w.n ps) = true
    rw [low_of h1, lowA_of h2]
    rfl
theorem lowO_of {K : PySem.W.Frag} {w : Wd} {H : Hp} {p : Addr} : ∀ {o : Ob}, ObAt K w H p o → lowO w.n o = true
  | .lst _, ⟨_, _, h⟩ => lows_of h
  | .dic _, ⟨_, _, h⟩ => lowA_of h
  | .ins _ _, ⟨_, _, _, h⟩ => lowA_of h
  | .exn ⟨_, Option.none⟩, _ => rfl
  | .exn ⟨_, Option.some (_, _)⟩, ⟨_, _, ⟨_, _, _, _, _, h⟩, _⟩ => low_of h
  | .tab _ _, _ => rfl
  | .lam L, ⟨_, _, _, h⟩ => lowE_of fun i d q => by
    obtain ⟨v, _, hv⟩ := h.2 i d q
    exact low_of hv
/-- a world with fewer owned objects -/
structure Wd.Cut (n : Nat) (w w' : Wd) : Prop where
  h : ∀ b o, w.H b = some o → w'.H b = some o
  a : ∀ k, k < n → w'.a k = w.a k
  n : n ≤ w'.n
mutual
theorem Dat.cutW {K : PySem.W.Frag} {n : Nat} {w w' : Wd} (e : w.Cut n w') : ∀ {d : D} {v : V}, lowD n d = true → Dat K w d v → Dat K w' d v
  | .ref m, _, l, ⟨h1, h2⟩ => by
    have hm : m < n := of_decide_eq_true l
    exact ⟨by rw [h1, e.a m hm], Nat.lt_of_lt_of_le hm e.n⟩
  | .tup ds, _, l, ⟨p, xs, h1, h2, h3⟩ => ⟨p, xs, h1, sqT_le e.h h2, Dats.cutW e (ds := ds) l h3⟩
  | .lst ds, _, l, ⟨p, xs, h1, h2, h3⟩ => ⟨p, xs, h1, e.h _ _ h2, Dats.cutW e (ds := ds) l h3⟩
  | .scr ds, _, l, ⟨p, xs, h1, h2, h3⟩ => ⟨p, xs, h1, sqL_le e.h h2, Dats.cutW e (ds := ds) l h3⟩
  | .non, _, _, h => h
  | .bl _, _, _, h => h
  | .int _, _, _, h => h
  | .str _, _, _, h => h
  | .fn _, _, _, h => h
  | .ty _, _, _, h => h
theorem Dats.cutW {K : PySem.W.Frag} {n : Nat} {w w' : Wd} (e : w.Cut n w') : ∀ {ds : List D} {vs : List V}, lowDs n ds = true → Dats K w ds vs → Dats K w' ds vs
  | [], _, _, h => h
  | d :: ds, _, l, ⟨v, vs, h1, h2, h3⟩ => by
    have l' : (lowD n d && lowDs n ds) = true := l
    rw [Bool.and_eq_true] at l'
    exact ⟨v, vs, h1, Dat.cutW e l'.1 h2, Dats.cutW e l'.2 h3⟩
end
theorem DatA.cutW {κ : Type} {K : PySem.W.Frag} {n : Nat} {w w' : Wd} (e : w.Cut n w') : ∀ {ps : List (κ × D)} {xs : List (κ × V)}, lowA n ps = true → DatA K w ps xs → DatA K w' ps xs
  | [], _, _, h => h
  | p :: ps, _, l, ⟨v, vs, h1, h2, h3⟩ => by
    have l' : (lowD n p.2 && lowA n ps) = true := l
    rw [Bool.and_eq_true] at l'
    exact ⟨v, vs, h1, Dat.cutW e l'.1 h2, DatA.cutW e l'.2 h3⟩
theorem ObAt.cutW {K : PySem.W.Frag} {n : Nat} {w w' : Wd} (e : w.Cut n w') {H : Hp} {p : Addr} : ∀ {o : Ob}, lowO n o = true → ObAt K w H p o → ObAt K w' H p o
  | .lst _, l, ⟨xs, h1, h2⟩ => ⟨xs, h1, h2.cutW e l⟩
  | .dic _, l, ⟨xs, h1, h2⟩ => ⟨xs, h1, h2.cutW e l⟩
  | .ins _ _, l, ⟨dx, xs, h1, h2⟩ => ⟨dx, xs, h1, h2.cutW e l⟩
  | .exn ⟨_, Option.none⟩, _, h => h
  | .exn ⟨_, Option.some (_, _)⟩, l, ⟨c, od, ⟨h1, p, v, h2, h3, h4⟩, h5⟩ => ⟨c, od, ⟨h1, p, v, h2, e.h _ _ h3, h4.cutW e l⟩, h5⟩
  | .tab _ _, _, ⟨h0, ps, h1, h2, h3⟩ => ⟨h0, ps, h1, h2, fun pos cv z => by
    obtain ⟨c, z1, z2⟩ := h3 pos cv z
    exact ⟨c, z1, e.h _ _ z2⟩⟩
  | .lam L, l, ⟨h0, h1, h2, h3⟩ => ⟨h0, h1, e.h _ _ h2, h3.1, fun i d q => by
    obtain ⟨v, g1, g2⟩ := h3.2 i d q
    exact ⟨v, g1, g2.cutW e (lowE_at l q)⟩⟩
/-- what may be forgotten: the store S at the start, S' at the end -/
def Keeps (S S' : Sto) : Prop := S.length ≤ S'.length ∧ ∀ k o, k < S.length → S'[k]? = some o → S[k]? = some o ∨ lowO S.length o = true
/-- what comes out -/
def outD (n : Nat) (S' : Sto) (d : D) : Option D := if lowD n d = true then some d else match d with
  | .ref m => match S'[m]? with
    | some (.lst xs) => if n ≤ m ∧ lowDs n xs = true then some (.lst xs) else none
    | _ => none
  | _ => none
noncomputable instance (S S' : Sto) : Decidable (Keeps S S') := Classical.propDecidable _
noncomputable def cutF (F : Fn) : Fn := fun ds S => match F ds S with
  | some (.ok d S') => match outD S.length S' d with
    | some d' => if Keeps S S' then some (.ok d' (S'.take S.length)) else none
    | none => none
  | r => r
theorem cut_rep {K : PySem.W.Frag} {S S' : Sto} {w w' : Wd} {H H' : Hp} (r : Rep K S w H) (k : Keeps S S') (e : w.Le w') (r' : Rep K S' w' H') {G : Hp} (hG : ∀ b o, w'.H b = some o → G b = some o) (hG2 : ∀ b o, G b = some o → H' b = some o) (hG3 : ∀ j, j < S.length → G (w'.a j) = none) (hG4 : ∀ b o, w'.F b = some o → G b = none) :
    w.Le ⟨G, w'.a, S.length, w'.F⟩ ∧ Rep K (S'.take S.length) ⟨G, w'.a, S.length, w'.F⟩ H' ∧ w'.Cut S.length ⟨G, w'.a, S.length, w'.F⟩ := by
  have cut : w'.Cut S.length ⟨G, w'.a, S.length, w'.F⟩ := ⟨hG, fun _ _ => rfl, Nat.le_refl _⟩
  refine ⟨⟨fun b o q => hG b o (e.h b o q), Nat.le_of_eq r.len, e.a, e.f⟩, ⟨hG2, ?_, fun j o q => ?_, fun i j hi hj q => ?_, fun b o q => ?_⟩, cut⟩
  · show S.length = (S'.take S.length).length
    rw [List.length_take, Nat.min_eq_left k.1]
  · have hj : j < S.length := by
      have := (List.getElem?_eq_some_iff.mp q).1
      rw [List.length_take] at this
      omega
    rw [List.getElem?_take_of_lt hj] at q
    obtain ⟨_, h2⟩ := r'.obs j o q
    refine ⟨hG3 j hj, h2.cutW cut ?_⟩
    rcases k.2 j o hj q with z | z
    · rw [← r.len]
      exact lowO_of (r.obs j o z).2
    · exact z
  · have hi' : i < S.length := hi
    have hj' : j < S.length := hj
    have le : S.length ≤ w'.n := by rw [r'.len]; exact k.1
    exact r'.inj i j (Nat.lt_of_lt_of_le hi' le) (Nat.lt_of_lt_of_le hj' le) q
  · obtain ⟨h1, h2, h3⟩ := r'.frm b o q
    refine ⟨h1, hG4 b o q, fun j hj => ?_⟩
    have hj' : j < S.length := hj
    have le : S.length ≤ w'.n := by rw [r'.len]; exact k.1
    exact h3 j (Nat.lt_of_lt_of_le hj' le)
theorem cutF_cl {K : PySem.W.Frag} {F : Fn} {ds : List D} {S : Sto} {r : Out D} (h : cutF F ds S = some r) : Cl K S (F ds S) (some r) := fun w Q E H rp po => by
  unfold cutF at h
  cases q : F ds S with
  | none =>
    rw [q] at h
    cases h
  | some o =>
    rw [q] at h
    cases o with
    | exc x S' =>
      cases h
      exact po
    | ok d S' =>
      have h2 : (match outD S.length S' d with
        | some d' => if Keeps S S' then some (Out.ok d' (S'.take S.length)) else none
        | none => none) = some r := h
      cases q2 : outD S.length S' d with
      | none =>
        rw [q2] at h2
        cases h2
      | some d' =>
        rw [q2] at h2
        obtain ⟨hk, e⟩ := some_if (show (if Keeps S S' then some (Out.ok d' (S'.take S.length)) else none) = some r from h2)
        subst e
        intro v w' H' e r' hv
        have le : S.length ≤ w'.n := by rw [r'.len]; exact hk.1
        unfold outD at q2
        by_cases hl : lowD S.length d = true
        · rw [if_pos hl] at q2
          cases q2
          obtain ⟨h1, h2, h3⟩ := cut_rep rp hk e r' (G := w'.H) (fun _ _ q => q) r'.sub (fun j hj => (r'.obs j (S'[j]'(Nat.lt_of_lt_of_le hj hk.1)) (by simp [Nat.lt_of_lt_of_le hj hk.1])).1) fun b o q => (r'.frm b o q).2.1
          exact po v _ H' h1 h2 (hv.cutW h3 hl)
        · rw [if_neg hl] at q2
          cases d with
          | ref m =>
            have q3 : (match S'[m]? with
              | some (.lst xs) => if S.length ≤ m ∧ lowDs S.length xs = true then some (D.lst xs) else none
              | _ => none) = some d' := q2
            cases q4 : S'[m]? with
            | none =>
              rw [q4] at q3
              cases q3
            | some o =>
              rw [q4] at q3
              cases o with
              | lst xs =>
                obtain ⟨⟨g1, g2⟩, e3⟩ := some_if (show (if S.length ≤ m ∧ lowDs S.length xs = true then some (D.lst xs) else none) = some d' from q3)
                subst e3
                obtain ⟨e4, hm⟩ := hv
                obtain ⟨z1, vs, z2, z3⟩ := r'.obs m _ q4
                have other : ∀ j, j < S.length → w'.a j ≠ w'.a m := fun j hj q => by
                  have := r'.inj j m (Nat.lt_of_lt_of_le hj le) hm q
                  omega
                have hup : ∀ b o, w'.H b = some o → upd w'.H (w'.a m) (.lst vs) b = some o := fun b o q => by
                  rw [upd_ne (ne_of_none q z1)]
                  exact q
                obtain ⟨h1, h2, h3⟩ := cut_rep rp hk e r' (G := upd w'.H (w'.a m) (.lst vs)) hup (fun b o q => by
                  by_cases hb : b = w'.a m
                  · rw [hb, upd_same] at q
                    rw [hb, z2]
                    exact q
                  · rw [upd_ne hb] at q
                    exact r'.sub b o q) (fun j hj => by
                  rw [upd_ne (other j hj)]
                  exact (r'.obs j (S'[j]'(Nat.lt_of_lt_of_le hj hk.1)) (by simp [Nat.lt_of_lt_of_le hj hk.1])).1) fun b o q => by
                  obtain ⟨y1, y2, y3⟩ := r'.frm b o q
                  rw [upd_ne (fun z => y3 m hm z.symm)]
                  exact y2
                exact po v _ H' h1 h2 ⟨_, vs, e4, upd_same, z3.cutW h3 g2⟩
              | _ => cases q3
          | _ => cases q2
theorem GnOk.cut {P : Program} {w : World} {K : PySem.W.Frag} {mg : Str → Option Value} {base : Heap} {k : Nat} {f : Addr} {fd : FuncData} {ps : List Str} {F : Fn} (g : GnOk P w K mg base k f fd ps F) : GnOk P w K mg base k f fd ps (cutF F) := g.imp fun ds S r _ h => cutF_cl h
end Cw

set_option maxRecDepth 100000
set_option maxHeartbeats 2000000
set_option linter.all false
/-! Exceptions: raise of a class with its own __init__, try .. except X as e, the caught one held as a value. -/
namespace Cw
open PySem PySem.Spec PyProof.Rows L2

/-! ### B.__init__(self, ..), B an own class without one -/
section
variable {X : Cx} {e : Expr} {es : List Expr} {ta : TA} {p1 p2 pos : Pos} {B : Str} {CB : Addr} {mc : Value}
theorem pe_ownInit {pl : Sem Bool} (hg : Gl X B) (hm : X.mg B = some (.ref CB)) (hsp : PySem.W.specialIn X.K (.ref CB) "__getattribute__" = some (some (.builtin "type.__getattribute__")))
    (hrd : PySem.W.readsIn X.K CB mc = true) (hfc : PySem.W.findCls X.K (.ref CB) mc "__init__" = some (.val (.builtin "ValueError.__init__"))) (ha : PA X (e :: es) ta) (hdb : (B == ("__debug__" : Str)) = false := by decide)
    (hev : eval (.Call (.Attribute (.Name B p1) "__init__" p2) (e :: es) [] pos) X.env = (do
        let bv ← eval (.Name B p1) X.env
        standAt p2.atName
        let (g, ahead) ← holding [bv] (getMethod bv "__init__" pl)
        callWith pos g ahead (backTo pos (starEach (e :: es) X.env)) (backToKw pos (keywordEach [] X.env))) := by rfl)
    (he : starEach (e :: es) X.env = (false, eval e X.env) :: starEach es X.env := by rfl) (hpl : (backTo pos (starEach es X.env)).any (·.1) = false := by rfl) :
    PE X (.Call (.Attribute (.Name B p1) "__init__" p2) (e :: es) [] pos) (tVeI X.K ta) := by
  refine ⟨fun pins s σ H Q I h => PySem.W.methodCall_KW (ld_glob I hg hm ?_ hdb) hev⟩
  refine PySem.W.method_cls I.kIn hsp (PySem.W.cls_value I.kIn hrd hfc (by decide +kernel) ?_)
  show wpAny _ _ (callWith pos (Value.builtin "ValueError.__init__") [] (backTo pos (starEach (e :: es) X.env)) []) _ _ _
  refine callWith_method1 (thn (ha.run pos pins _ σ H _ (I.tok _) h) ?_) he hpl
  rintro us s1 ⟨vs, H1, I1, r1, a, C, ws, rfl, hl, T, ea, q⟩
  cases r1 with
  | @cons _ u0 _ ur ra rw' =>
    obtain rfl : u0 = Value.ref a := ra
    exact oinit_ok T I1 ea (by rw [← Paired.length rw', sizeLine_eq]; omega) fun s' J => ⟨.non, H1, J, rfl, q⟩
end

/-! ### def __init__(self, x): B.__init__(self, text); self.f = x -/
/-- what such a def does -/
def spI (K : PySem.W.Frag) (C : Addr) (f : Str) : Sp := fun vs H Q _ => ∃ a v, vs = [.ref a, v] ∧ OexC K C ∧ PySem.W.findIn K (.ref C) f = some none ∧ H a = some (exo a C none) ∧
  ∀ d, H d = none → d ≠ a → Q .non (upd (upd H d (exd d [(f, v)])) a (exo a C (some d)))
section
variable {P : Program} {w : World} {K : PySem.W.Frag} {mg : Str → Option Value} {base : Heap} {qual x f B z : Str} {params : Arguments} {scope : Scope} {fI : Addr} {fd : FuncData} {C CB : Addr} {st1 st2 : Stmt}
/-- ValueError.__init__(self, z), as a statement -/
abbrev tIni (K : PySem.W.Frag) (z : Str) : TS := tDrop (tVeI K (tCons (tVar 0) (tCons (tC (.str z)) tNil)))
theorem initF (D : FunD K "__init__" qual params [st1, st2] scope [] [] fI fd) (Z : FnScope ["self", x] ["self", x] scope)
    (h1 : ∀ (cdv : Value) (A : Around) (outer : List PySem.Env) (s : Shared) (H : Hp) (E : XK), PS (cxOf C8.CX0 P w K mg base ["self", x] qual scope fI cdv A outer s H E) st1 (tIni K z))
    (h2 : ∀ (cdv : Value) (A : Around) (outer : List PySem.Env) (s : Shared) (H : Hp) (E : XK), PS (cxOf C8.CX0 P w K mg base ["self", x] qual scope fI cdv A outer s H E) st2 (tOst K f (tVar 0) (tVar 1))) :
    FnOk P w K mg base C8.CX0 1 fI fd ["self", x] (spI K C f) := by
  refine D.ok Z (fun vs H Q E h => by obtain ⟨a, v, e, _⟩ := h; rw [e]; rfl) fun cdv A outer s H vs Q E hr h => ?_
  refine ⟨_, pss_cons (h1 cdv A outer s H E) (pss_one (h2 cdv A outer s H E)), ?_⟩
  obtain ⟨a, v, rfl, T, hno, ea, k⟩ := h
  refine ⟨.ref a, rfl, a, C, [.str z], rfl, Nat.le_add_left 1 999, T, ea, ?_⟩
  exact ⟨v, rfl, .ref a, rfl, a, C, rfl, T, hno, .inl ⟨ea, fun dx hd hne => k dx hd hne⟩⟩
end

/-! ### raise C(e) -/
def sRaiseI (c f : Str) (A : DA) : DS := fun δ S => bndS (A δ S) δ fun ds S1 => match ds with
  | [d] => some (.exc ⟨c, some (f, d)⟩ δ S1)
  | _ => none
/-- what a class with such an __init__ brings -/
structure OwnX (P : Program) (w : World) (K : PySem.W.Frag) (mg : Str → Option Value) (base : Heap) (c f : Str) : Prop where
  glo : mg c = some (.ref (He.ga K c))
  T : OexC K (He.ga K c)
  no : PySem.W.findIn K (.ref (He.ga K c)) f = some none
  ex : ∃ (fI : Addr) (fd : FuncData) (ps : List Str), PySem.W.findIn K (.ref (He.ga K c)) "__init__" = some (some (.ref fI)) ∧ PySem.W.typeIn K (.ref fI) = some (.type "function") ∧ Binds K fd ps [] ∧ FnOk P w K mg base C8.CX0 1 fI fd ps (spI K (He.ga K c) f)
section
variable {X : Cx} {W : WX} {c f : Str} {e : Expr} {A : DA} {p pos pos' : Pos} {k : Nat}
theorem sv_raiseI (O : OwnX X.prog X.w X.K X.mg X.base c f) (hr : Rdy X W k) (hc : X.calm = true) (ha : Av X W [e] A) (hk : 2 ≤ k := by decide) (hg : Gl X c := by rfl)
    (hdb : (c == ("__debug__" : Str)) = false := by decide) (he : starEach [e] X.env = (false, eval e X.env) :: starEach [] X.env := by rfl) (hpl : (backTo pos (starEach [] X.env)).any (·.1) = false := by rfl) :
    Sv X W (.Raise (some (.Call (.Name c p) [e] [] pos)) none pos') (sRaiseI c f A) := by
  obtain ⟨fI, fd, ps, h1, h2, h3, h4⟩ := O.ex
  refine ⟨ps_imp (ps_raise hc hr.tk (pmk_oex O.T h1 h2 h4 (hr.rm.mono hk) h3 .nil C8.pass0 hg O.glo ha.pa hdb he hpl)) fun D σ H ⟨δ, S, w, r, en, q⟩ => ?_⟩
  refine ⟨δ, S, w, r, en, (q.bnd en).mono fun ds S1 w1 H1 e1 r1 p1 vs hvs => ?_⟩
  match ds, hvs, p1 with
  | [d], ⟨v, us, ev, hv, hu⟩, p1 =>
    have hu' : us = [] := hu
    subst hu' ev
    refine ⟨Nat.le_add_left 1 999, fun a na => ⟨a, v, rfl, O.T, O.no, upd_same, fun dx hd hne => ⟨rfl, dx, [(f, v)], upd_same, ?_, ?_, ?_⟩⟩⟩
    · rw [upd_ne hne, upd_same]
    · rw [upd_ne hne] at hd
      exact hd
    · have hd' : H1 dx = none := by
        rw [upd_ne hne] at hd
        exact hd
      have eH : upd (del (upd (upd (upd H1 a (exo a (He.ga X.K c) none)) dx (exd dx [(f, v)])) a (exo a (He.ga X.K c) (some dx))) a) dx (HO.xd [(f, v)]) = upd H1 dx (.xd [(f, v)]) := by
        funext b
        by_cases hb : b = dx
        · rw [hb, upd_same, upd_same]
        · rw [upd_ne hb, upd_ne hb]
          by_cases hb2 : b = a
          · rw [hb2, del_same, na]
          · rw [del_ne hb2, upd_ne hb2, upd_ne hb, upd_ne hb2]
      rw [eH]
      have e2 := w1.new_le dx (.xd [(f, v)]) (r1.free hd')
      refine p1 _ _ σ _ _ e2 (r1.new hd' _) ((en.le e1).le e2) ⟨rfl, dx, v, rfl, ?_, hv.le e2⟩
      show upd w1.H dx _ dx = _
      rw [upd_same]
  | [], _, p1 => exact p1.elim
  | _ :: _ :: _, _, p1 => exact p1.elim
end

/-! ### try: body / except c as n: suite, the caught one tracked -/
theorem exV_ok {P : Program} {w : World} {H : Hp} {h : Heap} {a : Addr} {cls : Value} {d : Option Addr} {oe : Obj} {vs : Array Value} (e : h.get? a = some oe) (z : Zc cls d oe) (q : oe.data = .fields vs) : ObjOk P w H h a (ExV cls d a) :=
  ⟨⟨oe, vs, e, z, q⟩, ⟨oe, e⟩, fun _ _ ⟨o, v, h1, h2⟩ k => ⟨o, v, k o h1, h2⟩⟩
section
variable {X : Cx} {pins : List (Addr × Obj)} {σ : L2.St} {H : Hp} {s : Shared} {a : Addr} {pn' : List (Addr × Obj)}
theorem inSuite (I : Inv X pins σ H s) : Inv (X.suite a (X.pn ++ pins)) [] σ H s :=
  ⟨I.ok.suite _ _, I.os, I.bare, I.base, I.loc, I.cell, I.free, I.freeC, fun p hp => I.pin p (by simpa using hp), I.hok, I.len⟩
theorem outSuite (I : Inv (X.suite a (X.pn ++ pins)) pn' σ H s) (ok : X.Ok) : Inv X pins σ H s :=
  ⟨ok, I.os, I.bare, I.base, I.loc, I.cell, I.free, I.freeC, fun p hp => I.pin p (List.mem_append_left _ hp), I.hok, I.len⟩
/-- the caught exception is told from now on -/
theorem caught_in {B h : Heap} {sI s' : Shared} {cls : Value} {d : Option Addr} {oe : Obj} {vs : Array Value} (J : Inv X pins σ H sI) (nb : ∀ b o, sI.heap.get? b = some o → b ∉ frs X.stack → B.get? b = some o) (st : B.StaysIn h) (nB : B.get? a = none)
    (nf : a ∉ frs X.stack) (up : sI.heap.UpToSlots h) (os : s'.os = sI.os) (ag : AllBare s'.gens) (na : H a = none) (ha : h.get? a = some oe) (hz : Zc cls d oe) (hd : oe.data = .fields vs) :
    Inv X pins σ (upd H a (ExV cls d a)) { s' with heap := h } := by
  obtain ⟨G, g1, g2⟩ := restrict h fun b => decide (b ≠ a)
  have ga : G.get? a = none := g2 a (decide_eq_false fun z => z rfl)
  have gk : ∀ b, b ≠ a → G.get? b = h.get? b := fun b hb => g1 b (decide_eq_true hb)
  have nI : ∀ b o, sI.heap.get? b = some o → b ≠ a := fun b o e z => by
    subst z
    rw [nb b o e nf] at nB
    cases nB
  have J1 : Inv X pins σ H { s' with heap := G } := J.landed nb (s' := { s' with heap := G }) (fun b o e => (gk b fun z => by rw [z, nB] at e; cases e).trans (st b o e))
    (fun b o e q => by
      obtain ⟨sl, z⟩ := up b o e q
      exact ⟨sl, (gk b (nI b o e)).trans z⟩) os ag
  exact J1.laidN (fun b u e => (gk b fun z => by rw [z, ga] at e; cases e).symm.trans e) ga na (exV_ok ha hz hd)
end
/-- what the clause wishes of an exception of the body -/
def wOwn (K : PySem.W.Frag) (c : Value) (i : Nat) (ts : Addr → Value → Option Addr → TS) (V : WX) (D : Ends) : WX := fun cls d σ H => ∃ b, PySem.W.exmOne K cls c = some b ∧ (b = false → V cls d σ H) ∧
  (b = true → ∀ a, H a = none → ts a cls d ⟨fun σ' H' => D.nx (σ'.set i none) H', D.rt, fun σ' H' => D.bk (σ'.set i none) H', fun σ' H' => D.ct (σ'.set i none) H'⟩ (σ.set i (some (.ref a))) (upd H a (ExV cls d a)))

section
variable {X : Cx} {x n : Str} {c : Value} {i : Nat} {inner tail : List Stmt} {s0 : Stmt} {np pos pos' : Pos} {tb : WX → TS} {ts : Addr → Value → Option Addr → TS} {V : WX}
abbrev clause (x n : Str) (np pos' : Pos) (s0 : Stmt) (tail : List Stmt) : List ExceptHandler := [.ExceptHandler (some (.Name x np)) (some n) (s0 :: tail) pos']
/-- where an exception of the body goes -/
abbrev toClause (X : Cx) (hs : List ExceptHandler) (pins : List (Addr × Obj)) (D : Ends) : Value → Shared → Prop := fun u s1 =>
  wpAny (model X.prog X.w) X.A (noteFrame u X.env) (fun _ s2 =>
    wpAny (model X.prog X.w) X.A (setFlight u none) (fun _ s3 =>
      wpAny (model X.prog X.w) X.A (handleBy u X.env hs) (SP X pins D) X.xe s3) X.xe s2) X.xe s1
theorem ps_try_own (hst : X.stack = X.env :: X.outer) (hfr : X.env.frame = some X.env.locals) (hN : X.N.Nodup) (hi : X.N[i]? = some n) (hln : X.env.kindOf n = some .local) (hc : Names X x c) (tk : Takes X V)
    (hb : ∀ (W : WX) (pn : List (Addr × Obj)) (xe : Value → Shared → Prop), Takes (X.tr pn xe) W → PassesOwn (model X.prog X.w) X.A X.env xe → PSs (X.tr pn xe) inner (tb W))
    (hsu : ∀ (a : Addr) (cls : Value) (d : Option Addr) (pn : List (Addr × Obj)), PSs (X.suite a pn) (s0 :: tail) (ts a cls d)) :
    PS X (.Try inner (clause x n np pos' s0 tail) [] [] pos) (fun D σ H => tb (wOwn X.K c i ts V D) D σ H) := by
  refine ⟨fun pins s σ H D I h => wpAny_Try_except ?_⟩
  have ok := I.ok
  have fr2 : X.A.frames = some (X.env :: X.outer) := ok.frames.trans (congrArg some hst)
  have tkB : Takes (X.tr (X.pn ++ pins) (toClause X (clause x n np pos' s0 tail) pins D)) (wOwn X.K c i ts V D) := by
    rintro u s1 ⟨a, B, sI, pins2, σ1, H1, cls, d, rfl, J0, nb, up, sky, na, os, ag, b, hb1, hno, hyes⟩
    have J : Inv X pins σ1 H1 sI := J0.ofTry ok
    have sky1 : Sky B (X.env :: X.outer) a (Zc cls d) X.env.locals s1.heap := by rw [← hst]; exact sky
    refine Sky.land Zc.steady fr2 hfr sky1 fun h3 fl3 up3 => ?_
    have J3 : Inv X pins σ1 H1 { s1 with heap := h3 } := J.landed nb fl3.1 (up.trans up3) os ag
    obtain ⟨o3, vs3, e3, z3, d3⟩ := fl3.there
    have nfr : a ∉ frs (X.env :: X.outer) := fun hm => by
      obtain ⟨_, o', e', hnf⟩ := fl3.2.2.1.mem hm
      rw [e3] at e'
      cases e'
      exact hnf _ d3
    have nfr2 : a ∉ frs X.stack := by rw [hst]; exact nfr
    have S3 := inSuite (a := a) J3
    refine wpAny_handleBy_cons (codeAny_handlers_test ?_) (by intro q; cases q)
    have look : PySem.W.Looks (model X.prog X.w) h3 (typeOf (.ref a)) cls := fun A Q E s k q => wpAny_typeOf_ref (k _ _ e3) (by rw [z3.1]; exact q)
    have goes := PySem.W.exm_one (M := model X.prog X.w) J3.kIn look hb1
    have name : ∀ {Q E : Value → Shared → Prop}, Q c { s1 with heap := h3 } → wpAny (model X.prog X.w) (X.A.mark (some (.ref a))) (eval (.Name x np) X.env) Q E { s1 with heap := h3 } := fun {Q E} q => by
      rcases hc with ⟨hg, hdb, hm | ⟨hm, hv, hnn⟩⟩
      · exact ld_glob (X := X.suite a (X.pn ++ pins)) S3 hg hm q hdb
      · exact ld_blt (X := X.suite a (X.pn ++ pins)) S3 hg hm hv q hnn hdb
    refine name (goes.here ?_)
    cases b with
    | false =>
      refine wpAny_handleBy_nil ?_
      obtain ⟨_, _, _, oe, vs, T, oT, us, he, _, hd, h1, _⟩ := id fl3
      have again : wpAny (model X.prog X.w) X.A (setFlight (.ref a) X.env.frame) (fun _ s4 => wpAny (model X.prog X.w) X.A (throw (.ref a) : Sem Flow) (SP X pins D) X.xe s4) X.xe { s1 with heap := h3 } := by
        rw [hfr]
        refine HandSPX.setFlight_upZ fl3 fun h4 held up4 => wpAny_throw (tk _ _ ⟨a, B, sI, pins, σ1, H1, cls, d, rfl, J, nb, (up.trans up3).trans up4, .inr (.inr ?_), na, os, ag, hno rfl⟩)
        rw [hst]
        exact held
      unfold PySem.passOn
      refine wpAny_bind (wpAny_field he hd h1 ?_)
      rw [if_neg (show ¬ ((Value.ref T == Value.none) = true) from by simp)]
      first
        | exact wpAny_bind (wpAny_pure (wpAny_bind again))
        | exact wpAny_bind again
    | true =>
      refine codeAny_handlers_suite_as (HandSPX.lands_againZ fl3 fun h4 fl4 up4 => ?_)
      obtain ⟨o4, vs4, e4, z4, d4⟩ := fl4.there
      have J4 : Inv X pins σ1 (upd H1 a (ExV cls d a)) { s1 with heap := h4 } := caught_in J nb fl4.1 fl4.2.1 nfr2 ((up.trans up3).trans up4) os ag na e4 z4 d4
      refine store_ok (X := X.suite a (X.pn ++ pins)) (v := .ref a) (inSuite J4) hN hi (.inl hln) rfl (fun s5 S5 => ?_) (.inr hln)
      refine wpAny_mono ((hsu a cls d (X.pn ++ pins)).run [] s5 _ _ _ S5 (hyes rfl a na)) (fun f s6 hsp => ?_) fun _ _ z => False.elim z
      cases f with
      | next =>
        obtain ⟨σ6, H6, S6, q6⟩ := hsp
        exact gone_ok (outSuite S6 ok) hN hi hln fun s7 J7 => ⟨_, _, J7, q6⟩
      | brk =>
        obtain ⟨σ6, H6, S6, q6⟩ := hsp
        exact gone_ok (outSuite S6 ok) hN hi hln fun s7 J7 => ⟨_, _, J7, q6⟩
      | cont =>
        obtain ⟨σ6, H6, S6, q6⟩ := hsp
        exact gone_ok (outSuite S6 ok) hN hi hln fun s7 J7 => ⟨_, _, J7, q6⟩
      | ret u =>
        obtain ⟨v6, σ6, H6, S6, r6, q6⟩ := hsp
        exact gone_ok (outSuite S6 ok) hN hi hln fun s7 J7 => ⟨_, _, _, J7, r6, q6⟩
  refine wpAny_mono ((hb _ _ _ tkB PassesOwn.looking).run [] s σ H D (I.toTry _) h) (fun f s1 hsp => ?_) fun e s1 he => he
  cases f with
  | next =>
    obtain ⟨σ', H', J', q⟩ := hsp
    exact wpAny_execs_nil ⟨σ', H', J'.ofTry ok, q⟩
  | brk =>
    obtain ⟨σ', H', J', q⟩ := hsp
    exact ⟨σ', H', J'.ofTry ok, q⟩
  | cont =>
    obtain ⟨σ', H', J', q⟩ := hsp
    exact ⟨σ', H', J'.ofTry ok, q⟩
  | ret u =>
    obtain ⟨v, σ', H', J', r, q⟩ := hsp
    exact ⟨v, σ', H', J'.ofTry ok, r, q⟩
end

theorem EnvOk.unset {K : PySem.W.Frag} {w : Wd} {σ : L2.St} {δ : Env} (h : EnvOk K w σ δ) (i : Nat) : EnvOk K w (σ.set i none) (δ.set i none) := by
  refine ⟨by rw [List.length_set, List.length_set]; exact h.1, fun j e q => ?_⟩
  by_cases hj : j = i
  · subst hj
    by_cases hl : j < δ.length
    · rw [List.getElem?_set_self hl] at q
      cases q
    · rw [List.getElem?_eq_none (by rw [List.length_set]; omega)] at q
      cases q
  · rw [List.getElem?_set_ne (Ne.symm hj)] at q ⊢
    exact h.2 j e q
/-- behind the suite its name is gone -/
def unB (i : Nat) : Option SOut → Option SOut
  | some (.nx δ S) => some (.nx (δ.set i none) S)
  | some (.brk δ S) => some (.brk (δ.set i none) S)
  | some (.ct δ S) => some (.ct (δ.set i none) S)
  | some (.ret d S) => some (.ret d S)
  | _ => none
/-- m: which classes the clause takes -/
def sTry (m : Str → Option Bool) (i : Nat) (A B : DS) : DS := fun δ S => match A δ S with
  | some (.exc x δ' S') => match m x.cls with
    | some true => unB i (B (δ'.set i (some (.ref S'.length))) (S' ++ [.exn x]))
    | some false => some (.exc x δ' S')
    | none => none
  | r => r
section
variable {X : Cx} {W : WX} {x n : Str} {i : Nat} {inner tail : List Stmt} {s0 : Stmt} {np pos pos' : Pos} {m : Str → Option Bool} {A B : DS}
theorem sv_try (hst : X.stack = X.env :: X.outer) (hfr : X.env.frame = some X.env.locals) (hN : X.N.Nodup) (hmx : X.mg x = some (.ref (He.ga X.K x))) (hm : ∀ y b, m y = some b → PySem.W.exmOne X.K (.ref (He.ga X.K y)) (.ref (He.ga X.K x)) = some b) (tk : Takes X W)
    (hb : ∀ (W' : WX) (pn : List (Addr × Obj)) (xe : Value → Shared → Prop), Takes (X.tr pn xe) W' → PassesOwn (model X.prog X.w) X.A X.env xe → Bv (X.tr pn xe) W' inner A)
    (hsu : ∀ (a : Addr) (pn : List (Addr × Obj)), Bv (X.suite a pn) (fun _ _ _ _ => False) (s0 :: tail) B)
    (hi : X.N[i]? = some n := by rfl) (hln : X.env.kindOf n = some .local := by rfl) (hg : Gl X x := by rfl) (hdb : (x == ("__debug__" : Str)) = false := by decide) :
    Sv X W (.Try inner (clause x n np pos' s0 tail) [] [] pos) (sTry m i A B) := by
  refine ⟨ps_imp (ps_try_own (c := .ref (He.ga X.K x)) (tb := fun W' => TSv X.K W' A) (ts := fun _ _ _ => TSv X.K (fun _ _ _ _ => False) B) hst hfr hN hi hln ⟨hg, hdb, .inl hmx⟩ tk (fun W' pn xe t p => (hb W' pn xe t p).pss) (fun a _ _ pn => (hsu a pn).pss)) ?_⟩
  rintro D σ H ⟨δ, S, w, r, en, q⟩
  refine ⟨δ, S, w, r, en, ?_⟩
  unfold sTry at q
  cases hA : A δ S with
  | none =>
    rw [hA] at q
    exact q.elim
  | some o =>
    rw [hA] at q
    cases o with
    | exc y δ1 S1 =>
      have q1 : PoS X.K W w D (match m y.cls with
        | some true => unB i (B (δ1.set i (some (.ref S1.length))) (S1 ++ [.exn y]))
        | some false => some (.exc y δ1 S1)
        | none => none) := q
      cases hmy : m y.cls with
      | none =>
        rw [hmy] at q1
        exact q1.elim
      | some b =>
        rw [hmy] at q1
        intro c od σ1 w1 H1 e1 r1 en1 hx
        refine ⟨b, by rw [hx.1]; exact hm _ _ hmy, fun hbf => ?_, fun hbt a na => ?_⟩
        · subst hbf
          exact q1 c od σ1 w1 H1 e1 r1 en1 hx
        · subst hbt
          have hr2 := r1.own (H' := upd H1 a (ExV c od a)) na (fun b hb o e => by rw [upd_ne hb]; exact e) (o := .exn y) ⟨c, od, hx, upd_same⟩
          have hd : Dat X.K (w1.own a) (.ref S1.length) (.ref a) := ⟨by rw [← r1.len, w1.own_at a], by rw [← r1.len]; exact Nat.lt_succ_self _⟩
          refine ⟨_, _, w1.own a, hr2, (en1.le (w1.own_le a)).set i hd, ?_⟩
          have q2 : PoS X.K W (w1.own a) D (unB i (B (δ1.set i (some (.ref S1.length))) (S1 ++ [.exn y]))) := PoS.le (e1.trans (w1.own_le a)) q1
          cases hB : B (δ1.set i (some (.ref S1.length))) (S1 ++ [.exn y]) with
          | none =>
            rw [hB] at q2
            exact q2.elim
          | some o2 =>
            rw [hB] at q2
            cases o2 with
            | nx δ2 S2 => exact fun σ2 w2 H2 e2 r2 en2 => q2 _ w2 H2 e2 r2 (en2.unset i)
            | brk δ2 S2 => exact fun σ2 w2 H2 e2 r2 en2 => q2 _ w2 H2 e2 r2 (en2.unset i)
            | ct δ2 S2 => exact fun σ2 w2 H2 e2 r2 en2 => q2 _ w2 H2 e2 r2 (en2.unset i)
            | ret d S2 => exact q2
            | exc z δ2 S2 => exact q2.elim
    | nx δ1 S1 => exact q
    | ret d S1 => exact q
    | brk δ1 S1 => exact q
    | ct δ1 S1 => exact q
end
end Cw

set_option maxRecDepth 100000
set_option maxHeartbeats 2000000
set_option linter.all false
/-! The caught exception as a value: e.f, isinstance(e, ..). -/
namespace Cw
open PySem PySem.Spec PyProof.Rows L2

/-- what is asked of a class whose caught instances are looked at -/
structure ExcK (K : PySem.W.Frag) (C : Addr) : Prop where
  t : XfC K C
  cl : (PySem.W.clsIn K C).isSome = true
  ha : PySem.W.findIn K (.ref C) "__class__" = some (some (.builtin "object.__class__"))
  hn : PySem.W.specialIn K (.builtin "object.__class__") "__get__" = some (some (.builtin "getset_descriptor.__get__"))
  ht : PySem.W.takesIn K (.builtin "object.__class__") = some true
  hm : PySem.W.mroIn K C (.type "object") = some true
def excKB (K : PySem.W.Frag) (C : Addr) : Bool := xfB K C && ((PySem.W.clsIn K C).isSome && (decide (PySem.W.findIn K (.ref C) "__class__" = some (some (.builtin "object.__class__"))) &&
  (decide (PySem.W.specialIn K (.builtin "object.__class__") "__get__" = some (some (.builtin "getset_descriptor.__get__"))) && (decide (PySem.W.takesIn K (.builtin "object.__class__") = some true) && decide (PySem.W.mroIn K C (.type "object") = some true)))))
theorem excKB_ok {K : PySem.W.Frag} {C : Addr} (h : excKB K C = true) : ExcK K C := by
  unfold excKB at h
  simp only [Bool.and_eq_true, decide_eq_true_eq] at h
  obtain ⟨h1, h2, h3, h4, h5, h6⟩ := h
  exact ⟨xfB_ok h1, h2, h3, h4, h5, h6⟩
section
variable {X : Cx} {W : WX} {pins : List (Addr × Obj)} {σ : L2.St} {H : Hp} {s : Shared} {S : Sto} {w : Wd} {n : Nat} {x : Exn}
theorem exc_inst (I : Inv X pins σ H s) (r : Rep X.K S w H) (h : S[n]? = some (.exn x)) : ∃ oe od, PySem.W.InstAt s.heap (w.a n) oe (He.ga X.K x.cls) od ∧
    ∀ f d, x.fs = some (f, d) → ∃ v u o, od = some o ∧ Dat X.K w d v ∧ RelV v u ∧ PySem.W.lookIn f o = some (some u) := by
  obtain ⟨_, c, dx, hx, hp⟩ := r.obs n _ h
  obtain ⟨⟨oe, vs, ho, hz, hd⟩, _, _⟩ := I.hok _ _ hp
  have hc : oe.cls = .ref (He.ga X.K x.cls) := hz.1.trans hx.1
  have hno : PySem.W.notCls oe = true := by
    unfold PySem.W.notCls
    rw [hd] <;> rfl
  obtain ⟨cls, fs⟩ := x
  cases fs with
  | none =>
    have e : dx = none := hx.2
    subst e
    exact ⟨oe, none, ⟨ho, hc, hno, by rw [hz.2]; trivial⟩, fun f d z => by cases z⟩
  | some fd =>
    obtain ⟨f, d⟩ := fd
    obtain ⟨q, v, e, hq, hv⟩ := hx.2
    subst e
    have ok : ObjOk X.prog X.w H s.heap q (.xd [(f, v)]) := I.hok q _ (r.sub _ _ hq)
    obtain ⟨mA, hns, hr⟩ := ok
    obtain ⟨o, hod, hl⟩ := lookIn_ns hns
    refine ⟨oe, some o, ⟨ho, hc, hno, by rw [hz.2]; exact hod⟩, fun g d' z => ?_⟩
    cases z
    have q2 := hr f
    have e2 : List.lookup f [(f, v)] = some v := by simp [List.lookup]
    rw [e2] at q2
    obtain ⟨u, hu, ru⟩ := RelO.some_of (v := v) (o := mA f) q2
    exact ⟨v, u, o, rfl, hv, ru, by rw [hl, hu]⟩
end
/-- e.f of a caught exception of one of the classes cs -/
def excF (f : Str) (cs : List Str) (S : Sto) : D → Option D
  | .ref n => match S[n]? with
    | some (.exn ⟨c, some (g, d)⟩) => if g = f ∧ c ∈ cs then some d else none
    | _ => none
  | _ => none
def dXf (f : Str) (cs : List Str) (A : DE) : DE := fun δ S => bnd (A δ S) fun x S1 => up (excF f cs S1 x) S1
section
variable {X : Cx} {W : WX} {e : Expr} {A : DE} {f : Str} {cs : List Str} {pos : Pos}
theorem ev_xf (ha : Ev X W e A) (hk : ∀ c ∈ cs, ExcK X.K (He.ga X.K c) ∧ PySem.W.findIn X.K (.ref (He.ga X.K c)) f = some none) (hb : attributeBase e f X.env (eval e X.env) = eval e X.env := by rfl) : Ev X W (.Attribute e f pos) (dXf f cs A) := by
  refine ⟨⟨fun pins s σ H Q I ⟨δ, S, w, r, en, p⟩ => ?_⟩⟩
  refine attr_of hb (thn (ha.pe.run pins s σ H (fun v H1 => ∃ d S1 w1, Rep X.K S1 w1 H1 ∧ Dat X.K w1 d v ∧ Po X.K W σ w1 (up (excF f cs S1 d) S1) (Got X.K Q)) I ⟨δ, S, w, r, en, p.bnd.mono fun d S1 w1 H1 e1 r1 p1 v hv => ⟨d, S1, w1, r1, hv, p1⟩⟩) ?_)
  rintro u s1 ⟨v, H1, I1, rv, d, S1, w1, r1, hv, p1⟩
  obtain ⟨d2, hd2, g⟩ := p1.up r1
  unfold excF at hd2
  split at hd2
  · rename_i n
    split at hd2
    · rename_i c g' d3 hS
      obtain ⟨⟨h1, h2⟩, e3⟩ := some_if hd2
      subst e3
      obtain ⟨k, hno⟩ := hk c h2
      obtain ⟨oe, od, J, hf⟩ := exc_inst I1 r1 hS
      obtain ⟨v4, u4, o4, eo, hv4, ru, hl⟩ := hf g' d3 rfl
      subst eo h1
      obtain ⟨ev, _⟩ := hv
      subst ev
      obtain rfl : u = Value.ref (w1.a n) := rv
      exact HandSPX.exc_get I1.kIn J k.t.ga k.t.gg k.t.exC (PySem.W.findObj_own k.t.hdC hno rfl hl) (handed_of ru) ⟨v4, H1, I1.tok _, ru, g v4 hv4⟩
    · cases hd2
  · cases hd2
end
theorem some_if2 {c : Prop} [Decidable c] {α : Type} {o : Option α} {b : α} (h : (if c then o else none) = some b) : c ∧ o = some b := by
  by_cases hc : c
  · rw [if_pos hc] at h
    exact ⟨hc, h⟩
  · rw [if_neg hc] at h
    cases h
/-- the class that a value names -/
def clsOf (K : PySem.W.Frag) : D → Option Value
  | .fn z => some (.ref (He.ga K z))
  | .ty n => some (.type n)
  | _ => none
def anyM (m : D → Option Bool) : List D → Option Bool
  | [] => some false
  | c :: r => match m c with
    | some true => some true
    | some false => anyM m r
    | none => none
/-- isinstance(e, c), isinstance(e, (c, ..)), e a caught exception; m: class by class -/
def isxV (m : Str → D → Option Bool) (x y : D) (S : Sto) : Option (D × Sto) := match x with
  | .ref n => match S[n]? with
    | some (.exn e) => (match y with
      | .tup cs => if (m e.cls (.ty "ValueError")).isSome then anyM (m e.cls) cs else none
      | c => m e.cls c).map fun b => (.bl b, S)
    | _ => none
  | _ => none
structure IsxOk (K : PySem.W.Frag) (m : Str → D → Option Bool) : Prop where
  k : ∀ y c b, m y c = some b → ExcK K (He.ga K y)
  a : ∀ y c b, m y c = some b → ∃ cv, clsOf K c = some cv ∧ PySem.W.kitOne K (.ref (He.ga K y)) cv = some b
theorem cls_rel {K : PySem.W.Frag} {w : Wd} {c : D} {cv : Value} {v : V} {u : Value} (h : clsOf K c = some cv) (hv : Dat K w c v) (r : RelV v u) : u = cv := by
  cases c with
  | fn z =>
    cases h
    have e : v = .ref (He.ga K z) := hv
    subst e
    exact r
  | ty n =>
    cases h
    have e : v = .ty n := hv
    subst e
    exact r
  | _ => cases h
theorem any_kit {K : PySem.W.Frag} {w : Wd} {m : Str → D → Option Bool} (M : IsxOk K m) {y : Str} : ∀ {cs : List D} {vs : List V} {us : List Value} {b : Bool}, Dats K w cs vs → Vals vs us → anyM (m y) cs = some b → PySem.W.kitAny K (.ref (He.ga K y)) us = some b
  | [], vs, us, b, hd, hv, h => by
    have e : vs = [] := hd
    subst e
    cases hv
    exact h
  | c :: cs, vs, us, b, ⟨v, vs', e, h1, h2⟩, hv, h => by
    subst e
    cases hv with
    | cons r rs =>
      unfold anyM at h
      cases hm : m y c with
      | none =>
        rw [hm] at h
        cases h
      | some b1 =>
        rw [hm] at h
        obtain ⟨cv, h3, h4⟩ := M.a _ _ _ hm
        have eu := cls_rel h3 h1 r
        subst eu
        unfold PySem.W.kitAny
        rw [h4]
        cases b1 with
        | true => exact h
        | false => exact any_kit M h2 rs h
section
variable {X : Cx} {m : Str → D → Option Bool}
/-- the builtin, by what stands in its first place -/
def rIsx (K : PySem.W.Frag) (m : Str → D → Option Bool) : List V → Hp → VK → Prop := fun vs H Q => ∃ x y d S S' w v u, vs = [v, u] ∧ isxV m x y S = some (d, S') ∧ Rep K S w H ∧ Dat K w x v ∧ Dat K w y u ∧ ∀ w' H' z, w.Le w' → Rep K S' w' H' → Dat K w' d z → Q z H'
theorem call_isx (M : IsxOk X.K m) : CallR X (.builtin "isinstance") (rIsx X.K m) := by
  intro pins s σ H xs us Q I rv ⟨x, y, d, S, S', w, v, u, exs, hg, r, hx, hy, k⟩
  subst exs
  cases rv with
  | cons rx rr =>
    cases rr with
    | cons ry rr =>
      cases rr
      unfold isxV at hg
      split at hg
      · rename_i n
        split at hg
        · rename_i e hS
          obtain ⟨ev, _⟩ := hx
          subst ev
          cases rx
          obtain ⟨oe, od, J, _⟩ := exc_inst I r hS
          obtain ⟨b, hb, e2⟩ := Option.map_eq_some_iff.mp hg
          cases e2
          have fin : ∀ tk, EP X pins σ Q (.bool b) { s with toks := tk } := fun tk => ⟨.bl b, H, I.kept (t' := tk) fun _ _ z => z, rfl, k w H _ Wd.Le.rfl r rfl⟩
          have one : ∀ c b', m e.cls c = some b' → PySem.W.KitX X.K (.ref (w.a n)) (.ref (He.ga X.K e.cls)) (fun h => PySem.W.InstAt h (w.a n) oe (He.ga X.K e.cls) od) := fun c b' z => by
            have q := M.k _ _ _ z
            exact PySem.W.kitx_exc q.cl q.t.ga q.t.gg q.t.exC q.ha q.hn q.ht q.hm
          split at hb
          · rename_i cs
            obtain ⟨hs, hany⟩ := some_if2 hb
            obtain ⟨b0, hb0⟩ := Option.isSome_iff_exists.mp hs
            obtain ⟨p, ws, ey, hsq, hds⟩ := hy
            subst ey
            cases ry
            obtain ⟨its, rits, ⟨o, ho, hc, nn, hdat⟩, _⟩ := I.tuple (r.sqT hsq)
            obtain ⟨oc, odd, odt, osl⟩ := o
            dsimp only at hc hdat
            subst hc hdat
            exact PySem.W.kia_tup (one _ _ hb0) I.kIn J ho (any_kit M hds rits hany) (fun z => nomatch z) fin
          · rename_i c hc2
            obtain ⟨cv, h3, h4⟩ := M.a _ _ _ hb
            have eu := cls_rel h3 hy ry
            subst eu
            exact PySem.W.kia_one (one _ _ hb) I.kIn J h4 (fun z => nomatch z) fin
        · cases hg
      · cases hg
theorem b_isx (M : IsxOk X.K m) : CalR X (.builtin "isinstance") (fun xs S => match xs with | [x, y] => isxV m x y S | _ => none) := cal2 (call_isx M) fun x y d S S' w H v u Q hg r hx hy q => ⟨x, y, d, S, S', w, v, u, rfl, hg, r, hx, hy, q⟩
end
end Cw

set_option maxRecDepth 100000
set_option maxHeartbeats 2000000
set_option linter.all false
/-! x(lambda: body): a function without parameters, handed to a def that calls it. -/
namespace Cw
open PySem PySem.Spec PyProof.Rows L2

abbrev Thk := Sto → Option (Out D)
theorem PoF.le {K : PySem.W.Frag} {w w' : Wd} {r : Option (Out D)} {Q : VK} {E : XK} (e : w.Le w') (h : PoF K w r Q E) : PoF K w' r Q E := by
  match r, h with
  | some (.ok d S'), h => exact fun v w2 H2 e2 => h v w2 H2 (e.trans e2)
  | some (.exc x S'), h => exact fun c od w2 H2 e2 => h c od w2 H2 (e.trans e2)
/-- a(), a the parameter at slot i that holds the lambda of L -/
noncomputable def dThunk (i : Nat) (L : LamR) (th : Thk) : DE := fun δ S => match δ[i]? with
  | some (some (.ref n)) => (haveI := Classical.propDecidable (S[n]? = some (.lam L)); if S[n]? = some (.lam L) then th S else none)
  | _ => none
/-- where a lambda's function stands -/
abbrev lamO (X : Cx) (params : Arguments) (body : Expr) (scope : Scope) (pm : Value) (c' : Addr) (ctv : Value) : Obj := PySem.W.kla_obj "<lambda>" (X.env.qual ++ "<lambda>") params body scope (cloFrom X.env.cells scope.names []) pm c' ctv
section
variable {X : Cx} {W : WX} {pins : List (Addr × Obj)} {σ : L2.St} {H : Hp} {s : Shared} {S : Sto} {w : Wd} {δ : Env}
theorem tracked {o : Obj} {h' : Heap} {f : Addr} {t' : Nat} (I : Inv X pins σ H { s with heap := h' }) (hf : f = h'.objs.size) (hc : ∃ c d fd, o = { cls := c, dict := d, data := .func fd }) :
    Inv X pins σ (upd H f (.ext fun h => h.get? f = some o)) { s with heap := h'.push o, toks := t' } := by
  subst hf
  obtain ⟨c, d, fd, rfl⟩ := hc
  have hn : H h'.objs.size = none := I.hok.fresh (Nat.le_refl _)
  have new : (h'.push { cls := c, dict := d, data := .func fd }).get? h'.objs.size = some { cls := c, dict := d, data := .func fd } := Heap.get?_push_size _ rfl
  exact I.laidN (s := { s with heap := h' }) (t' := t') (fun b u e => Heap.get?_push_of_some _ e) (by
    cases q : h'.get? h'.objs.size with
    | none => rfl
    | some u => exact absurd (Heap.lt_size q) (Nat.lt_irrefl _)) hn ⟨new, ⟨_, new⟩, fun _ _ z k => k _ z⟩
/-- the lambda is made: it is owned from now on -/
theorem lam_own {c P : Addr} {q : Str} {params : Arguments} {body : Expr} {scope : Scope} {pos : Pos} {k : Nat} {E : Value → Shared → Prop} {Q : Value → Shared → Prop} (I : Inv X pins σ H s) (TB : LamX.TabB X.base X.mg c P) (hcode : X.env.code = .ref c)
    (hq : q = X.env.qual ++ "<lambda>") (hdef : defaultsOf params X.env = ([], [])) (hfree : ∀ y ∈ scope.names, y.2 = .free → ∃ c, X.env.cells.lookup y.1 = some c)
    (r : Rep X.K S w H) (en : EnvOk X.K w σ δ) (hS : S[k]? = some (.tab P q))
    (h : ∀ (f c' : Addr) (pm ctv : Value) (w1 : Wd) (H1 H2 : Hp) (s' : Shared), w.Le w1 → Rep X.K S w1 H1 → Inv X pins σ H2 s' → Rep X.K (S ++ [.lam ⟨f, c', q, lamO X params body scope pm c' ctv, σ, δ⟩]) (w1.own f) H2 → Q (.ref f) s') :
    wpAny (model X.prog X.w) X.A (eval (.Lambda params body scope pos) X.env) Q E s := by
  subst hq
  obtain ⟨hw, hP0, ps, hP, ht, ha⟩ := r.obs k _ hS
  have hk : k < w.n := by rw [r.len]; exact (List.getElem?_eq_some_iff.mp hS).1
  rw [hP0] at hP hw
  have bP : s.heap.BuiltinsAt X.mg P := TB.bm.keeps I.bk
  have gP : s.heap.get? P = some { cls := .none, data := .fields ps } := I.hok P _ hP
  have fin : ∀ (f c' : Addr) (pm ctv : Value) (w1 : Wd) (H1 : Hp) (h' : Heap) (t1 t' : Nat), w.Le w1 → Rep X.K S w1 H1 → Inv X pins σ H1 { s with heap := h', toks := t1 } → f = h'.objs.size → w1.H c' = some (LamX.CodeO c' (X.env.qual ++ "<lambda>")) →
      Q (.ref f) { s with heap := h'.push (lamO X params body scope pm c' ctv), toks := t' } := fun f c' pm ctv w1 H1 h' t1 t' e1 r1 I1 ef hc1 => by
    have I2 := tracked (s := { s with toks := t1 }) (t' := t') (o := lamO X params body scope pm c' ctv) I1 ef ⟨_, _, _, rfl⟩
    have nf : H1 f = none := by rw [ef]; exact I1.hok.fresh (Nat.le_refl _)
    refine h f c' pm ctv w1 H1 _ _ e1 r1 I2 (r1.own nf (fun b hb o e => by rw [upd_ne hb]; exact e) ⟨rfl, upd_same, hc1, en.le e1⟩)
  refine PySem.W.kla_eval hdef ?_
  cases hc : codeAmong pos ps.toList with
  | some cv =>
    obtain ⟨c', e, hco⟩ := ha pos cv hc
    subst e
    refine PySem.W.kla_makeFunctionHit (mg := X.mg) (c := c) (P := P) (ps := ps) (closure_ok hfree) I.ok.glob (I.mod.glob.keeps I.bk) hcode (TB.code.keeps I.bk) gP ht hc bP fun ctv h' tk hx hsz => ?_
    exact fin _ c' _ ctv w H h' s.toks tk Wd.Le.rfl r (I.kept hx) rfl hco
  | none =>
    refine PySem.W.kla_makeFunction (mg := X.mg) (c := c) (P := P) (ps := ps) (closure_ok hfree) I.ok.glob (I.mod.glob.keeps I.bk) hcode (TB.code.keeps I.bk) gP ht hc TB.gP bP fun c' ctv h' tk hx hge hlt hrec htb => ?_
    obtain ⟨c2, oc, vs, t, e2, hoc, hd, hv⟩ := hrec
    cases e2
    have nC : H c' = none := I.hok.fresh hge
    have I1 := LamX.inv_table (q := X.env.qual ++ "<lambda>") (t' := s.toks) (more := #[rawInt pos.line, rawInt pos.col, .ref c']) I hP hx htb hge ⟨oc, vs, t, hoc, hd, hv⟩
    have nPc : P ≠ c' := ne_of_none hP nC
    have e1 : w.Le (w.new c' (LamX.CodeO c' (X.env.qual ++ "<lambda>"))) := w.new_le c' _ (r.free nC)
    have at1 : (w.new c' (LamX.CodeO c' (X.env.qual ++ "<lambda>"))).H c' = some (LamX.CodeO c' (X.env.qual ++ "<lambda>")) := by
      show upd w.H c' _ c' = _
      rw [upd_same]
    refine fin _ c' _ ctv _ _ h' s.toks tk e1 ?_ I1 rfl at1
    have r1 : Rep X.K S (w.new c' (LamX.CodeO c' (X.env.qual ++ "<lambda>"))) (upd H c' (LamX.CodeO c' (X.env.qual ++ "<lambda>"))) := r.new nC _
    have swap : upd (upd H P (.tbl (ps ++ #[rawInt pos.line, rawInt pos.col, .ref c']))) c' (LamX.CodeO c' (X.env.qual ++ "<lambda>")) = upd (upd H c' (LamX.CodeO c' (X.env.qual ++ "<lambda>"))) P (.tbl (ps ++ #[rawInt pos.line, rawInt pos.col, .ref c'])) := by
      funext b
      by_cases h1 : b = c'
      · subst h1
        rw [upd_same, upd_ne (Ne.symm nPc), upd_same]
      · by_cases h2 : b = P
        · subst h2
          rw [upd_ne h1, upd_same, upd_same]
        · rw [upd_ne h1, upd_ne h2, upd_ne h2, upd_ne h1]
    rw [swap]
    have eL : (ps ++ #[rawInt pos.line, rawInt pos.col, .ref c']).toList = ps.toList ++ [rawInt pos.line, rawInt pos.col, .ref c'] := by simp
    have r2 := r1.write (n := k) hk (H' := upd (upd H c' (LamX.CodeO c' (X.env.qual ++ "<lambda>"))) P (.tbl (ps ++ #[rawInt pos.line, rawInt pos.col, .ref c']))) (o := .tab P (X.env.qual ++ "<lambda>"))
      (fun b hb => by
        have hb' : b ≠ P := fun z => hb (z.trans hP0.symm)
        rw [upd_ne hb']) (by
        show w.a k = P ∧ _
        refine ⟨hP0, _, by show upd _ P _ (w.a k) = _; rw [hP0, upd_same], by rw [eL]; exact PySem.TriplesOk_snoc _ _ _ _ ht, fun p' cv hcv => ?_⟩
        rw [eL] at hcv
        rcases LamX.among_app _ ht hcv with z | z
        · obtain ⟨c0, z1, z2⟩ := ha p' cv z
          exact ⟨c0, z1, e1.h _ _ z2⟩
        · exact ⟨c', z, at1⟩)
    have eS : S.set k (.tab P (X.env.qual ++ "<lambda>")) = S := by
      apply List.ext_getElem?
      intro j
      by_cases hj : j = k
      · subst hj
        rw [hS, List.getElem?_set_self (List.getElem?_eq_some_iff.mp hS).1]
      · rw [List.getElem?_set_ne (Ne.symm hj)]
    rw [eS] at r2
    exact r2
end

/-! ### its call in the def that got it -/
section
variable {X : Cx} {pins : List (Addr × Obj)} {σ : L2.St} {H : Hp} {s : Shared}
/-- the context of the def that got the lambda, entered at s -/
abbrev gotCx (X : Cx) (Ng : List Str) (x : Str) (sg : Scope) (g : Addr) (cdg : Value) (s : Shared) (H : Hp) (E : XK) : Cx := cxOf (L2.CX X.prog X.w) X.prog X.w X.K X.mg X.base Ng x sg g cdg X.A X.stack s H E
theorem ev_thunk {Ng : List Str} {x : Str} {sg : Scope} {g : Addr} {cdg pm ctv : Value} {f c' : Addr} {E : XK} {params : Arguments} {body : Expr} {scope : Scope} {k : Nat} {a : Str} {δ : Env} {B : DE} {W : WX} {pn : List (Addr × Obj)} {xe : Value → Shared → Prop} {p1 p2 : Pos}
    (I : Inv X pins σ H s) (Ls : LamX.LamS X.env.scope scope)
    (hbind : bindArgs (PySem.W.kla_fn "<lambda>" (X.env.qual ++ "<lambda>") params body scope (cloFrom X.env.cells scope.names []) pm (.ref c') ctv) ⟨[], []⟩ = pure [])
    (tk : Takes ((gotCx X Ng x sg g cdg s H E).tr pn xe) W) (hr : Room (k + 1) (X.A.deeper (envOfC x sg s.heap.objs.size g cdg)))
    (hbody : ∀ (A : Around) (outer : List PySem.Env) (s : Shared) (H : Hp) (E : XK), Room k (A.deeper (LamX.lamEnv X scope s.heap.objs.size f c')) → A.guards = some [] → Ev (LamX.lamCx X A outer s H E scope f c') (fun c d _ H => E c d H) body B) (hgd : X.A.guards = some [])
    (hN : Ng[0]? = some a) (hv : Vis sg a) (hd : (a == ("__debug__" : Str)) = false := by decide) (hcd : (a == ("__classdict__" : Str)) = false := by decide) :
    Ev ((gotCx X Ng x sg g cdg s H E).tr pn xe) W (.Call (.Name a p1) [] [] p2) (dThunk 0 ⟨f, c', X.env.qual ++ "<lambda>", lamO X params body scope pm c' ctv, σ, δ⟩ (B δ)) := by
  refine ⟨⟨fun pinsZ sZ σZ HZ Q IZ ⟨δZ, S, w, r, en, p⟩ => ?_⟩⟩
  have key : ∃ n, δZ[0]? = some (some (.ref n)) ∧ S[n]? = some (.lam ⟨f, c', X.env.qual ++ "<lambda>", lamO X params body scope pm c' ctv, σ, δ⟩) ∧ Po X.K W σZ w (B δ S) (Got X.K Q) := by
    unfold dThunk at p
    cases e0 : δZ[0]? with
    | none => rw [e0] at p; exact p.elim
    | some d0 =>
      rw [e0] at p
      cases d0 with
      | none => exact p.elim
      | some d1 =>
        cases d1 with
        | ref n =>
          by_cases hS : S[n]? = some (.lam ⟨f, c', X.env.qual ++ "<lambda>", lamO X params body scope pm c' ctv, σ, δ⟩)
          · simp only [hS, if_true] at p
            exact ⟨n, rfl, hS, p⟩
          · simp only [hS, if_false] at p
            exact p.elim
        | _ => exact p.elim
  obtain ⟨n, e0, hS, po⟩ := key
  obtain ⟨v0, ev0, hv0, _⟩ := en.2 0 _ e0
  obtain ⟨_, hp, hext, hco, hen⟩ := r.obs n _ hS
  subst hv0
  rw [hp] at ev0 hext
  refine wpAny_Call_Name_kw (thn ((pe_var (pos := p1) (i := 0) hN hv hd hcd).run pinsZ sZ σZ HZ (fun v H1 => v = .ref f ∧ H1 = HZ) IZ ⟨.ref f, ev0, rfl, rfl⟩) ?_)
  rintro u s1 ⟨v, H1, I1, r1, ev, eH⟩
  subst ev
  subst eH
  obtain rfl : u = Value.ref f := r1
  obtain ⟨of1, _, _⟩ := I1.hok f _ hext
  obtain ⟨⟨oc, vs, t, hoc, hdc, hvc⟩, _, _⟩ := I1.hok c' _ (r.sub _ _ hco)
  refine PySem.W.callWith_F0 ⟨_, _, _, _, of1⟩ ?_
  have un : Un (frs X.stack) [] H H1 s.heap s1.heap := I1.base
  let E1 : XK := fun c d H' => W c d σZ H'
  have rc : codeAny (model X.prog X.w) (X.A.deeper (envOfC x sg s.heap.objs.size g cdg)) (.call (.ref f) ⟨[], []⟩) (CR (L2.CX X.prog X.w) (envOfC x sg s.heap.objs.size g cdg :: X.stack) X.prog X.w H1 s1 Q E1) s1 := by
    refine PySem.W.kla_callFunE hr.depth of1 rfl Ls.co Ls.gen rfl ⟨c', oc, vs, t, rfl, hoc, hdc, hvc⟩ ?_
    rw [hbind]
    refine wpAny_pure (wpAny_newFunctionEnv (fun y hy => (Ls.own y hy).2) (fun y hy => absurd hy (by simp)) (fun h2 hns hsb => ⟨I1.nolimit.fresh _ hsb, ?_⟩) Ls.kind)
    show codeAny _ _ (.expr body (LamX.lamEnv X scope s1.heap.objs.size f c')) _ _
    have kp : ∀ b o, s1.heap.get? b = some o → h2.get? b = some o := fun b o e => hsb.extBut b o (Nat.ne_of_lt (Heap.lt_size e)) (Heap.get?_push_of_some _ e)
    have J : Inv (LamX.lamCx X (X.A.deeper (envOfC x sg s.heap.objs.size g cdg)) (envOfC x sg s.heap.objs.size g cdg :: X.stack) s1 H1 E1 scope f c') [] σ H1 { s1 with heap := h2, toks := s1.toks + ([] : List (Str × Value)).length } :=
      LamX.lam_start2 I Ls I1.env0 hr.hd un hns kp
    have go := (hbody (X.A.deeper (envOfC x sg s.heap.objs.size g cdg)) (envOfC x sg s.heap.objs.size g cdg :: X.stack) s1 H1 E1 (hr.deeper _) hgd).pe.run [] _ _ H1 Q J ⟨δ, S, w, r, hen, by
      have po1 : Po X.K W σZ w (B δ S) (Got X.K Q) := po
      show Po X.K (fun c d _ H => E1 c d H) σ w (B δ S) (Got X.K Q)
      cases q : B δ S with
      | none => rw [q] at po1; exact po1.elim
      | some o =>
        rw [q] at po1
        cases o with
        | ok d S' => exact po1
        | exc y S' => exact po1⟩
    refine PySem.W.kla_codeExpr (wpAny_mono go (fun v s' hq => ?_) fun e s' hq => hq)
    obtain ⟨w', H', J', rv, q⟩ := hq
    exact ⟨w', H', J'.os, J'.bare, J'.base, J'.hok, rv, q⟩
  refine wpAny_call (codeAny_mono rc fun rr s' hq => ?_)
  cases rr with
  | error e => exact tk e s' (XE.of_call I1 (fun _ _ _ h => h) hq)
  | ok fl =>
    cases fl with
    | ret u => exact I1.after hq
    | next => exact False.elim hq
    | brk => exact False.elim hq
    | cont => exact False.elim hq
end

theorem body_pos {K : PySem.W.Frag} {wd : Wd} {n : Nat} {A : DS} {ds : List D} {S : Sto} {Q : VK} {E : XK} (po : PoF K wd (body n A ds S) Q E) :
    PoS K (fun c d _ H => E c d H) wd { nx := fun _ H' => Q .non H', rt := Q } (A (ds.map some ++ List.replicate (n - ds.length) none) S) := by
  unfold body at po
  cases q : A (ds.map some ++ List.replicate (n - ds.length) none) S with
  | none => rw [q] at po; exact po.elim
  | some o =>
    rw [q] at po
    cases o with
    | nx δ S' => exact fun σ' w' H' e r _ => po .non w' H' e r rfl
    | ret d S' => exact po
    | brk δ S' => exact po.elim
    | ct δ S' => exact po.elim
    | exc x δ S' => exact fun c od σ' w' H' e r _ hx => po c od w' H' e r hx
/-- the def x that calls its parameter a: what it comes to, told by the thunk -/
def GivesD (P : Program) (w : World) (K : PySem.W.Frag) (mg : Str → Option Value) (base : Heap) (A : Around) (stack : List PySem.Env) (k : Nat) (Ng : List Str) (x : Str) (sg : Scope) (g : Addr) (bg : List Stmt) (a : Str) (dL : LamR → Thk → DS) : Prop :=
  ∀ (L : LamR) (th : Thk) (s : Shared) (H : Hp) (E : XK) (cdg : Value),
    (∀ (W : WX) (pn : List (Addr × Obj)) (xe : Value → Shared → Prop) (p1 p2 : Pos), Takes ((cxOf (L2.CX P w) P w K mg base Ng x sg g cdg A stack s H E).tr pn xe) W → Ev ((cxOf (L2.CX P w) P w K mg base Ng x sg g cdg A stack s H E).tr pn xe) W (.Call (.Name a p1) [] [] p2) (dThunk 0 L th)) →
    Rdy (cxOf (L2.CX P w) P w K mg base Ng x sg g cdg A stack s H E) (fun c d _ H => E c d H) k → Bv (cxOf (L2.CX P w) P w K mg base Ng x sg g cdg A stack s H E) (fun c d _ H => E c d H) bg (dL L th)
/-- x(lambda: ..): R what the def makes of the thunk; the table at P is owned -/
noncomputable def dLam (P : Addr) (q : Str) (R : Thk → Thk) (B : DE) : DE := fun δ S => haveI := Classical.propDecidable (∃ k : Nat, S[k]? = some (.tab P q)); if ∃ k : Nat, S[k]? = some (.tab P q) then R (B δ) S else none
section
variable {X : Cx} {W : WX}
theorem ev_lam {Ng : List Str} {x a q : Str} {g c P : Addr} {k kk : Nat} {pg : Arguments} {bg : List Stmt} {sg : Scope} {fd : FuncData} {params : Arguments} {body' : Expr} {scope : Scope} {B : DE} {dL : LamR → Thk → DS} {R : Thk → Thk} {p lpos pos : Pos}
    (D : FunD X.K x x pg bg sg [] [] g fd) (hb : Binds X.K fd [a] []) (hm : X.mg x = some (.ref g)) (Sg : FnScope Ng [a] sg) (hG : GivesD X.prog X.w X.K X.mg X.base X.A X.stack (k + 1) Ng x sg g bg a dL)
    (hR : ∀ (L : LamR) (th : Thk) (S : Sto) (r : Out Cw.D), R th S = some r → cutF (fun _ S => body Ng.length (dL L th) [.ref S.length] (S ++ [.lam L])) [] S = some r)
    (TB : LamX.TabB X.base X.mg c P) (hcode : X.env.code = .ref c) (hr : Rdy X W kk) (hkk : k + 2 ≤ kk) (Ls : LamX.LamS X.env.scope scope)
    (hbody : ∀ (A : Around) (outer : List PySem.Env) (s : Shared) (H : Hp) (E : XK) (f c' : Addr), Room k (A.deeper (LamX.lamEnv X scope s.heap.objs.size f c')) → A.guards = some [] → Ev (LamX.lamCx X A outer s H E scope f c') (fun c d _ H => E c d H) body' B)
    (hq : q = X.env.qual ++ "<lambda>" := by rfl) (hg : Gl X x := by rfl) (hdef : defaultsOf params X.env = ([], []) := by rfl)
    (hbind : ∀ (q : Str) (cl : List (Str × Addr)) (pm cv ctv : Value), bindArgs (PySem.W.kla_fn "<lambda>" q params body' scope cl pm cv ctv) ⟨[], []⟩ = pure [] := by intros; rfl)
    (hNg : Ng[0]? = some a := by rfl) (hva : Vis sg a := by first | exact Or.inl rfl | exact Or.inr (Or.inl rfl))
    (hdb : (x == ("__debug__" : Str)) = false := by decide) (hd : (a == ("__debug__" : Str)) = false := by decide) (hcd : (a == ("__classdict__" : Str)) = false := by decide) :
    Ev X W (.Call (.Name x p) [.Lambda params body' scope lpos] [] pos) (dLam P q R B) := by
  subst hq
  have kp := D.kp
  obtain ⟨oc, od, dV, kV, doc, pm0, an, cdv, ct, osl, rfl, lk, hcg, _, _⟩ := D.ex
  refine ⟨⟨fun pins s σ H Q I ⟨δ, S, w, r, en, po⟩ => ?_⟩⟩
  have key : ∃ j : Nat, S[j]? = some (.tab P (X.env.qual ++ "<lambda>")) ∧ Po X.K W σ w (R (B δ) S) (Got X.K Q) := by
    unfold dLam at po
    by_cases hS : ∃ j : Nat, S[j]? = some (.tab P (X.env.qual ++ "<lambda>"))
    · simp only [hS, if_true] at po
      obtain ⟨j, hj⟩ := hS
      exact ⟨j, hj, po⟩
    · simp only [hS, if_false] at po
      exact po.elim
  obtain ⟨j, hS, po1⟩ := key
  refine wpAny_Call_Name_kw (ld_glob I hg hm ?_ hdb)
  refine PySem.W.callWith_K (h₀ := X.base) I.ok.mod.kin kp ?_ (by rfl) (by rfl)
  show wpAny _ _ (spliced ((false, eval (.Lambda params body' scope lpos) X.env) :: backTo pos (starEach [] X.env))) _ _ s
  refine Calls.spliced_cons (lam_own I TB hcode rfl hdef (Ls.has I.ok) r en hS fun f c' pm ctv w1 H1 H2 s' e1 r1 I2 r2 => ?_)
  refine Calls.spliced_nil ⟨I2.kIn, ?_⟩
  have poF : PoF X.K w (R (B δ) S) Q (fun c d H => W c d σ H) := by
    cases q : R (B δ) S with
    | none => rw [q] at po1; exact po1.elim
    | some o =>
      rw [q] at po1
      cases o with
      | ok d S' => exact fun v w' H' e r hv => po1 w' H' e r v hv
      | exc x S' => exact po1
  have rc : codeAny (model X.prog X.w) X.A (.call (.ref g) ⟨[.ref f], []⟩) (CR (L2.CX X.prog X.w) X.stack X.prog X.w H2 s' Q (fun c d H => W c d σ H)) s' := by
    refine LamX.run_ofS (k := k + 1) (N := Ng) (ps := [a]) (us := [.ref f]) (vs := [.ref f]) lk hcg Sg (hr.rm.mono hkk) I2.env0 (hb s' [.ref f] I2.kIn rfl) (.cons rfl .nil) rfl fun hr' => ?_
    have bv := hG ⟨f, c', X.env.qual ++ "<lambda>", lamO X params body' scope pm c' ctv, σ, δ⟩ (B δ) s' H2 (fun c d H => W c d σ H) cdv
      (fun W' pn xe p1 p2 tk => ev_thunk I2 Ls (hbind _ _ _ _ _) tk hr' (fun A outer s H E h1 h2 => hbody A outer s H E f c' h1 h2) hr.gd hNg hva hd hcd) ⟨takes_of rfl rfl rfl rfl, hr.gd, hr'⟩
    refine ⟨_, bv.pss, _, _, w1.own f, r2, start_env (ds := [.ref S.length]) (vs := [.ref f]) (Dats.cons ⟨by rw [← r1.len, w1.own_at f], by rw [← r1.len]; exact Nat.lt_succ_self _⟩ Dats.nil), body_pos ?_⟩
    cases q : R (B δ) S with
    | none => rw [q] at poF; exact poF.elim
    | some o =>
      rw [q] at poF
      have cl := cutF_cl (K := X.K) (hR ⟨f, c', X.env.qual ++ "<lambda>", lamO X params body' scope pm c' ctv, σ, δ⟩ (B δ) S o q)
      exact PoF.le (w1.own_le f) (cl w1 Q _ H1 r1 (PoF.le e1 poF))
  refine wpAny_call (codeAny_mono rc fun rr s2 hq => ?_)
  cases rr with
  | error e => exact hr.tk e s2 (XE.of_call I2 (fun _ _ _ h => h) hq)
  | ok fl =>
    cases fl with
    | ret u => exact I2.after hq
    | next => exact False.elim hq
    | brk => exact False.elim hq
    | cont => exact False.elim hq
end

section
variable {P : Program} {w : World} {K : PySem.W.Frag} {mg : Str → Option Value} {base : Heap}
/-- as gn_of, the code object told -/
theorem gn_ofC {x qual : Str} {params : Arguments} {bd : List Stmt} {scope : Scope} {dvs : List V} {kws : List (Str × V)} {f : Addr} {fd : FuncData} {N ps : List Str} {k : Nat} {A : DS} (F : FunD K x qual params bd scope dvs kws f fd) (Z : FnScope N ps scope)
    (hbody : ∀ (cdv : Value) (B : Around) (outer : List PySem.Env) (st : Shared) (G : Hp) (E : XK), fd.code = cdv → B.guards = some [] → Room k (B.deeper (envOfC qual scope st.heap.objs.size f cdv)) →
      Bv (cxOf (L2.CX P w) P w K mg base N qual scope f cdv B outer st G E) (fun c d _ H => E c d H) bd A) : GnOk P w K mg base (k + 1) f fd ps (body N.length A) := by
  have kp := F.kp
  obtain ⟨oc, od, dV, kV, doc, pm, an, cdv, ct, osl, rfl, lk, hcd, hD, hK⟩ := F.ex
  refine ⟨fun B outer st G args us vs Q E hr hg e0 hb rv ⟨ds, S, wd, hlen, rep, hds, po⟩ => ?_⟩
  refine LamX.run_ofS (k := k) (N := N) (ps := ps) lk hcd Z hr e0 hb rv (hds.len.trans hlen) fun hr' => ?_
  exact ⟨_, (hbody cdv B outer st G E rfl hg hr').pss, _, _, wd, rep, start_env hds, body_pos po⟩
end

/-- what the def makes of any thunk, told by its den -/
noncomputable def lamR (n : Nat) (dL : LamR → Thk → DS) : Thk → Thk := fun th S =>
  haveI := Classical.propDecidable (∃ r, ∀ L, cutF (fun _ S => body n (dL L th) [.ref S.length] (S ++ [.lam L])) [] S = some r)
  if h : ∃ r, ∀ L, cutF (fun _ S => body n (dL L th) [.ref S.length] (S ++ [.lam L])) [] S = some r then some h.choose else none
theorem lamR_ok {n : Nat} {dL : LamR → Thk → DS} (L : LamR) (th : Thk) (S : Sto) (r : Out D) (e : lamR n dL th S = some r) : cutF (fun _ S => body n (dL L th) [.ref S.length] (S ++ [.lam L])) [] S = some r := by
  unfold lamR at e
  by_cases h : ∃ r, ∀ L, cutF (fun _ S => body n (dL L th) [.ref S.length] (S ++ [.lam L])) [] S = some r
  · simp only [h, dite_true] at e
    have q := h.choose_spec L
    rw [Option.some.inj e] at q
    exact q
  · simp only [h, dite_false] at e
    cases e
theorem lamR_eq {n : Nat} {dL : LamR → Thk → DS} {th : Thk} {S : Sto} {r : Out D} (h : ∀ L, cutF (fun _ S => body n (dL L th) [.ref S.length] (S ++ [.lam L])) [] S = some r) : lamR n dL th S = some r := by
  have hx : ∃ r, ∀ L, cutF (fun _ S => body n (dL L th) [.ref S.length] (S ++ [.lam L])) [] S = some r := ⟨r, h⟩
  have L0 : LamR := ⟨0, 0, Str.empty, { cls := .none, data := .plain }, [], []⟩
  unfold lamR
  simp only [hx, dite_true]
  have q := hx.choose_spec L0
  rw [h L0] at q
  exact q.symm
theorem ev_lamB {X : Cx} {A : Around} {outer : List PySem.Env} {s : Shared} {H : Hp} {E : XK} {scope : Scope} {f c' : Addr} {k : Nat} {e : Expr} {B : DE} (hr : Room k (A.deeper (LamX.lamEnv X scope s.heap.objs.size f c'))) (hg : A.guards = some [])
    (go : Rdy (LamX.lamCx X A outer s H E scope f c') (fun c d _ H => E c d H) k → Ev (LamX.lamCx X A outer s H E scope f c') (fun c d _ H => E c d H) e B) : Ev (LamX.lamCx X A outer s H E scope f c') (fun c d _ H => E c d H) e B := go ⟨takes_of rfl rfl rfl rfl, hg, hr⟩
theorem Rdy.tr {X : Cx} {W W' : WX} {k : Nat} {pn : List (Addr × Obj)} {xe : Value → Shared → Prop} (tk : Takes (X.tr pn xe) W') (R : Rdy X W k) : Rdy (X.tr pn xe) W' k := ⟨tk, R.gd, R.rm⟩
end Cw

set_option maxRecDepth 100000
set_option maxHeartbeats 2000000
set_option linter.all false
/-! What the head tells of exception classes, as Bools. -/
namespace Cw
open PySem PySem.Spec PyProof.Rows L2

def oexB (K : PySem.W.Frag) (C : Addr) : Bool := (match K.lookup C with
  | some ⟨.type t, _, .cls cd, sl⟩ => t == "type" && (match cd.mro, sl.toList with
    | .ref C' :: bm, [_, _, _, _, some (.builtin n), _] => C' == C && n == "ValueError.__new__" && !cd.hasDel && cd.hasDict && PySem.HandSPX.refsVE bm
    | _, _ => false)
  | _ => false) && (decide (PySem.W.findIn K (.ref C) "__setattr__" = some (some (.builtin "object.__setattr__"))) && (decide (PySem.W.subIn K (.ref C) (.type "BaseException") = some true) &&
  (decide (PySem.W.typeIn K (.ref C) = some (.type "type")) && PySem.W.keepIn K (.ref C))))
theorem oexB_ok {K : PySem.W.Frag} {C : Addr} (h : oexB K C = true) : OexC K C := by
  unfold oexB at h
  simp only [Bool.and_eq_true, decide_eq_true_eq] at h
  obtain ⟨h1, h2, h3, h4, h5⟩ := h
  refine ⟨?_, h2, h3, h4, h5⟩
  split at h1
  · rename_i t dd cd sl ho
    rw [Bool.and_eq_true] at h1
    obtain ⟨ht, h1⟩ := h1
    split at h1
    · rename_i C' bm k0 k1 k2 k3 n k5 hm hs
      simp only [Bool.and_eq_true, beq_iff_eq, Bool.not_eq_true'] at h1
      obtain ⟨⟨⟨⟨e1, e2⟩, e3⟩, e4⟩, e5⟩ := h1
      obtain ⟨nm, bs, mro, ns, qn, hd, sn, sb, ab, col, del⟩ := cd
      dsimp only at hm e3 e4
      have et : t = "type" := by simpa using ht
      subst et e1 e2 e3 e4 hm
      have es : sl = #[k0, k1, k2, k3, some (.builtin "ValueError.__new__"), k5] := by
        apply Array.ext'
        simpa using hs
      subst es
      exact ⟨nm, qn, ns, bs, bm, sn, sb, ab, col, dd, k0, k1, k2, k3, k5, ho, e5⟩
    · cases h1
  · cases h1
/-- class by class: of own classes, of builtin ones -/
def tblM (tf : List (Str × Str × Bool)) (tt : List (Str × String × Bool)) : Str → D → Option Bool
  | y, .fn z => (tf.find? fun r => r.1 == y && r.2.1 == z).map (·.2.2)
  | y, .ty n => (tt.find? fun r => r.1 == y && r.2.1 == n).map (·.2.2)
  | _, _ => none
def isxB (K : PySem.W.Frag) (tf : List (Str × Str × Bool)) (tt : List (Str × String × Bool)) : Bool :=
  tf.all (fun r => excKB K (He.ga K r.1) && decide (PySem.W.kitOne K (.ref (He.ga K r.1)) (.ref (He.ga K r.2.1)) = some r.2.2)) && tt.all (fun r => excKB K (He.ga K r.1) && decide (PySem.W.kitOne K (.ref (He.ga K r.1)) (.type r.2.1) = some r.2.2))
theorem isxB_ok {K : PySem.W.Frag} {tf : List (Str × Str × Bool)} {tt : List (Str × String × Bool)} (h : isxB K tf tt = true) : IsxOk K (tblM tf tt) := by
  obtain ⟨h1, h2⟩ := Bool.and_eq_true_iff.mp h
  have k1 : ∀ {y z : Str} {b : Bool}, (tf.find? fun r => r.1 == y && r.2.1 == z).map (·.2.2) = some b → ExcK K (He.ga K y) ∧ PySem.W.kitOne K (.ref (He.ga K y)) (.ref (He.ga K z)) = some b := fun {y z b} e => by
    obtain ⟨r, hr, e2⟩ := Option.map_eq_some_iff.mp e
    have q := List.find?_some hr
    simp only [Bool.and_eq_true, beq_iff_eq] at q
    have g := List.all_eq_true.mp h1 r (List.mem_of_find?_eq_some hr)
    simp only [Bool.and_eq_true, decide_eq_true_eq] at g
    rw [← q.1, ← q.2, ← e2]
    exact ⟨excKB_ok g.1, g.2⟩
  have k2 : ∀ {y : Str} {n : String} {b : Bool}, (tt.find? fun r => r.1 == y && r.2.1 == n).map (·.2.2) = some b → ExcK K (He.ga K y) ∧ PySem.W.kitOne K (.ref (He.ga K y)) (.type n) = some b := fun {y n b} e => by
    obtain ⟨r, hr, e2⟩ := Option.map_eq_some_iff.mp e
    have q := List.find?_some hr
    simp only [Bool.and_eq_true, beq_iff_eq] at q
    have g := List.all_eq_true.mp h2 r (List.mem_of_find?_eq_some hr)
    simp only [Bool.and_eq_true, decide_eq_true_eq] at g
    rw [← q.1, ← q.2, ← e2]
    exact ⟨excKB_ok g.1, g.2⟩
  refine ⟨fun y c b e => ?_, fun y c b e => ?_⟩
  · cases c with
    | fn z => exact (k1 e).1
    | ty n => exact (k2 e).1
    | _ => cases e
  · cases c with
    | fn z => exact ⟨_, rfl, (k1 e).2⟩
    | ty n => exact ⟨_, rfl, (k2 e).2⟩
    | _ => cases e
/-- which classes the clause 'except x' takes -/
def tblE (t : List (Str × Bool)) : Str → Option Bool := fun y => (t.find? fun r => r.1 == y).map (·.2)
def exmB (K : PySem.W.Frag) (x : Str) (t : List (Str × Bool)) : Bool := t.all fun r => decide (PySem.W.exmOne K (.ref (He.ga K r.1)) (.ref (He.ga K x)) = some r.2)
theorem exmB_ok {K : PySem.W.Frag} {x : Str} {t : List (Str × Bool)} (h : exmB K x t = true) : ∀ y b, tblE t y = some b → PySem.W.exmOne K (.ref (He.ga K y)) (.ref (He.ga K x)) = some b := fun y b e => by
  obtain ⟨r, hr, e2⟩ := Option.map_eq_some_iff.mp e
  have q := List.find?_some hr
  have q2 : r.1 = y := by simpa using q
  have g := List.all_eq_true.mp h r (List.mem_of_find?_eq_some hr)
  rw [← q2, ← e2]
  exact of_decide_eq_true g
/-- e.f of a caught exception of the classes cs -/
def xfsB (K : PySem.W.Frag) (f : Str) (cs : List Str) : Bool := cs.all fun c => excKB K (He.ga K c) && decide (PySem.W.findIn K (.ref (He.ga K c)) f = some none)
theorem xfsB_ok {K : PySem.W.Frag} {f : Str} {cs : List Str} (h : xfsB K f cs = true) : ∀ c ∈ cs, ExcK K (He.ga K c) ∧ PySem.W.findIn K (.ref (He.ga K c)) f = some none := fun c hc => by
  have g := List.all_eq_true.mp h c hc
  simp only [Bool.and_eq_true, decide_eq_true_eq] at g
  exact ⟨excKB_ok g.1, g.2⟩
/-- B has no __init__ of its own, and ValueError's stands above -/
def iniB (K : PySem.W.Frag) (B : Str) : Bool := decide (PySem.W.specialIn K (.ref (He.ga K B)) "__getattribute__" = some (some (.builtin "type.__getattribute__"))) && (PySem.W.readsIn K (He.ga K B) (.type "type") &&
  (match PySem.W.findCls K (.ref (He.ga K B)) (.type "type") "__init__" with
  | some (.val (.builtin n)) => decide (n = "ValueError.__init__")
  | _ => false))
theorem iniB_ok {K : PySem.W.Frag} {B : Str} (h : iniB K B = true) : PySem.W.specialIn K (.ref (He.ga K B)) "__getattribute__" = some (some (.builtin "type.__getattribute__")) ∧ PySem.W.readsIn K (He.ga K B) (.type "type") = true ∧
    PySem.W.findCls K (.ref (He.ga K B)) (.type "type") "__init__" = some (.val (.builtin "ValueError.__init__")) := by
  unfold iniB at h
  simp only [Bool.and_eq_true, decide_eq_true_eq] at h
  obtain ⟨h1, h2, h3⟩ := h
  refine ⟨h1, h2, ?_⟩
  split at h3
  · rename_i n e
    rw [e, of_decide_eq_true h3]
  · cases h3
/-- c's __init__ stands as the method that the head tells of; f is no name of c -/
def ownB (K : PySem.W.Frag) (c f : Str) : Bool := oexB K (He.ga K c) && (decide (PySem.W.findIn K (.ref (He.ga K c)) f = some none) && (decide (PySem.W.findIn K (.ref (He.ga K c)) "__init__" = some (some (.ref (He.ma K (He.ga K c) "__init__")))) &&
  decide (PySem.W.typeIn K (.ref (He.ma K (He.ga K c) "__init__")) = some (.type "function"))))
theorem own_of {P : Program} {w : World} {K : PySem.W.Frag} {mg : Str → Option Value} {base : Heap} {c f : Str} {fd : FuncData} {ps : List Str} (h : ownB K c f = true) (hm : mg c = some (.ref (He.ga K c))) (hb : Binds K fd ps [])
    (g : FnOk P w K mg base C8.CX0 1 (He.ma K (He.ga K c) "__init__") fd ps (spI K (He.ga K c) f)) : OwnX P w K mg base c f := by
  unfold ownB at h
  simp only [Bool.and_eq_true, decide_eq_true_eq] at h
  obtain ⟨h1, h2, h3, h4⟩ := h
  exact ⟨hm, oexB_ok h1, h2, _, fd, ps, h3, h4, hb, g⟩
end Cw

set_option maxRecDepth 100000
set_option maxHeartbeats 2000000
set_option linter.all false
/-! f-strings; a module's tuple of texts. -/
namespace Cw
open PySem PySem.Spec PyProof.Rows L2

/-- {x}: a text or an int -/
def fmt1 : D → Option D
  | .str y => if y.length ≤ big then some (.str y) else none
  | .int i => if i.natAbs.log2 < 1920 then some (.str (toString i)) else none
  | _ => none
def dFmt (A : DE) : DE := fun δ S => bnd (A δ S) fun x S1 => up (fmt1 x) S1
/-- the parts, one behind another -/
def dJs : List DE → Str → DE
  | [], acc => fun _ S => some (.ok (.str acc) S)
  | A :: r, acc => fun δ S => bnd (A δ S) fun x S1 => match x with
    | .str y => if (acc ++ y).length ≤ big then dJs r (acc ++ y) δ S1 else none
    | _ => none
section
variable {X : Cx} {W : WX} {pos : Pos} {e v1 v2 : Expr} {rest es : List Expr} {A : DE} {As : List DE}
theorem ev_fmt (h : Ev X W e A) : Ev X W (.FormattedValue e (-1) none pos) (dFmt A) :=
  ⟨pe_imp (pe_fmt h.pe) fun σ H Q ⟨δ, S, w, r, en, p⟩ => ⟨δ, S, w, r, en, p.bnd.mono fun x S1 w1 H1 e1 r1 p1 v hv => by
    obtain ⟨d, hd, g⟩ := p1.up r1
    cases x with
    | str y =>
      obtain ⟨hl, e2⟩ := some_if (show (if y.length ≤ big then some (D.str y) else none) = some d from hd)
      subst e2
      exact .inl ⟨y, hv, big_line hl, g _ rfl⟩
    | int i =>
      obtain ⟨hl, e2⟩ := some_if (show (if i.natAbs.log2 < 1920 then some (D.str (toString i)) else none) = some d from hd)
      subst e2
      exact .inr ⟨i, hv, hl, g _ rfl⟩
    | _ => cases hd⟩⟩
structure Jv (X : Cx) (W : WX) (es : List Expr) (As : List DE) : Prop where
  ex : ∃ ts, PJ X es ts ∧ ∀ acc σ H (Q : Str → Hp → Prop), (∃ δ S w, Rep X.K S w H ∧ EnvOk X.K w σ δ ∧ Po X.K W σ w (dJs As acc δ S) (fun d _ _ H' => ∀ z, d = .str z → Q z H')) → tJs ts acc σ H Q
theorem jv_nil : Jv X W [] [] := ⟨[], .nil, fun acc σ H Q ⟨δ, S, w, r, en, p⟩ => p w H Wd.Le.rfl r acc rfl⟩
theorem jv_cons (h : Ev X W e A) (k : Jv X W es As) : Jv X W (e :: es) (A :: As) := by
  obtain ⟨ts, h1, h2⟩ := k.ex
  refine ⟨_, .cons h.pe h1, fun acc σ H Q ⟨δ, S, w, r, en, p⟩ => ⟨δ, S, w, r, en, p.bnd.mono fun x S1 w1 H1 e1 r1 p1 v hv => ?_⟩⟩
  cases x with
  | str y =>
    have p2 : Po X.K W σ w1 (if (acc ++ y).length ≤ big then dJs As (acc ++ y) δ S1 else none) (fun d _ _ H' => ∀ z, d = .str z → Q z H') := p1
    by_cases hl : (acc ++ y).length ≤ big
    · rw [if_pos hl] at p2
      exact ⟨y, hv, big_line hl, h2 _ _ _ _ ⟨δ, S1, w1, r1, en.le e1, p2⟩⟩
    · rw [if_neg hl] at p2
      exact p2.elim
  | _ => exact p1.elim
theorem ev_joined (h : Jv X W (v1 :: v2 :: rest) As) : Ev X W (.JoinedStr (v1 :: v2 :: rest) pos) (dJs As Str.empty) := by
  obtain ⟨ts, h1, h2⟩ := h.ex
  refine ⟨pe_imp (pe_joined h1) fun σ H Q ⟨δ, S, w, r, en, p⟩ => h2 _ _ _ _ ⟨δ, S, w, r, en, p.mono fun d S1 w1 H1 e1 r1 g z hz => ?_⟩⟩
  subst hz
  exact g _ rfl
end
/-- a module's tuple of texts -/
def textsB : List Value → List Str → Bool
  | [], [] => true
  | .str y _ :: vs, z :: zs => y == z && textsB vs zs
  | _, _ => false
def gtupB (K : PySem.W.Frag) (x : Str) (zs : List Str) : Bool := match K.lookup (He.ga K x) with
  | some ⟨.type t, _, .seq its _, _⟩ => t == "tuple" && (decide (its.size ≤ sizeLine) && textsB its.toList zs)
  | _ => false
theorem textsB_ok : ∀ {vs : List Value} {zs : List Str}, textsB vs zs = true → Vals (zs.map V.str) vs
  | [], [], _ => .nil
  | .str y t :: vs, z :: zs, h => by
    have h' : (y == z && textsB vs zs) = true := h
    rw [Bool.and_eq_true, beq_iff_eq] at h'
    obtain ⟨e, h2⟩ := h'
    subst e
    exact .cons ⟨t, rfl⟩ (textsB_ok h2)
theorem gtupB_ok {K : PySem.W.Frag} {x : Str} {zs : List Str} (h : gtupB K x zs = true) (w : Wd) : Dat K w (.tup (zs.map D.str)) (.ref (He.ga K x)) := by
  unfold gtupB at h
  split at h
  · rename_i t dd its n sl ho
    simp only [Bool.and_eq_true, decide_eq_true_eq] at h
    obtain ⟨h1, h2, h3⟩ := h
    have et : t = "tuple" := by simpa using h1
    subst et
    refine ⟨_, zs.map V.str, rfl, .inr ⟨_, its, n, ho, rfl, rfl, h2, textsB_ok h3⟩, ?_⟩
    clear h3
    induction zs with
    | nil => exact Dats.nil
    | cons z zs ih => exact Dats.cons (d := .str z) rfl ih
  · cases h

/-- a text, twice -/
def rTwice : R2 := fun x y H Q => ∃ z : Str, x = .str z ∧ y = .int 2 ∧ z.length ≤ big ∧ Q (.str (z ++ z)) H
theorem op_twice {X : Cx} : OpR X (binaryOp .Mult) rTwice := by
  rintro pins s σ H x y v u Q I rx ry ⟨z, rfl, rfl, hz, q⟩
  obtain ⟨t, rfl⟩ := rx
  obtain ⟨t', rfl⟩ := ry
  have hz' : (z.length : Int) ≤ 1000000 := Int.ofNat_le.mpr hz
  refine P.mul_str (by decide) (fun _ _ => ?_) (fun _ _ => ?_) ?_
  · omega
  · have h2 : z.length * (2 : Int).toNat ≤ sizeLine := by
      show z.length * 2 ≤ sizeLine
      rw [sizeLine_eq]
      have : z.length ≤ 1000000 := hz
      omega
    show decide (z.length * (2 : Int).toNat > sizeLine) = false
    exact decide_eq_false (Nat.not_lt_of_le h2)
  · rw [if_neg (by decide)]
    by_cases h0 : z.length = 0
    · have e : (((2 : Int) == 1) || (z.length == 0)) = true := by rw [h0]; rfl
      rw [if_pos e]
      have ez : z ++ z = z := by
        have hc : z.cps = #[] := by
          apply Array.eq_empty_of_size_eq_zero
          exact h0
        obtain ⟨c⟩ := z
        have hc' : c = #[] := hc
        subst hc'
        rfl
      rw [ez] at q
      exact ⟨.str z, H, I, ⟨_, rfl⟩, q⟩
    · have e : ¬ ((((2 : Int) == 1) || (z.length == 0)) = true) := fun z2 => by
        rcases Bool.or_eq_true_iff.mp z2 with z3 | z3
        · exact absurd z3 (by decide)
        · exact h0 (beq_iff_eq.mp z3)
      rw [if_neg e]
      have ez : (⟨(List.replicate (2 : Int).toNat z.cps).foldl (· ++ ·) #[]⟩ : Str) = z ++ z := by
        show (⟨#[] ++ z.cps ++ z.cps⟩ : Str) = z ++ z
        rw [Array.empty_append]
        rfl
      rw [ez]
      exact ⟨by
        show (z ++ z).length ≤ _
        have : (z ++ z).length = z.length + z.length := by
          show (z.cps ++ z.cps).size = _
          rw [Array.size_append]
          rfl
        rw [this, sizeLine_eq]
        have : z.length ≤ 1000000 := hz
        omega, ⟨.str (z ++ z), H, I.tok _, ⟨_, rfl⟩, q⟩⟩
def twiceV (x y : D) (S : Sto) : Option (D × Sto) := match x, y with
  | .str z, .int 2 => if z.length ≤ big then some (.str (z ++ z), S) else none
  | _, _ => none
theorem opd_twice {K : PySem.W.Frag} : OpD K rTwice twiceV := fun x y d S S' w H u v Q h r hx hy q => by
  unfold twiceV at h
  split at h
  · obtain ⟨hl, e⟩ := some_if h
    cases e
    exact ⟨_, hx, hy, hl, q w H _ Wd.Le.rfl r rfl⟩
  · cases h
theorem ev_twice {X : Cx} {W : WX} {pos : Pos} {a b : Expr} {A B : DE} (ha : Ev X W a A) (hb : Ev X W b B) : Ev X W (.BinOp a .Mult b pos) (dOp twiceV A B) := ev_op op_twice opd_twice ha hb

section
variable {X : Cx} {W : WX} {pos : Pos} {x : Str} {d : D}
theorem evG_val (h : X.mg x = some (.ref (He.ga X.K x)) ∧ ∀ w, Dat X.K w d (.ref (He.ga X.K x))) (hg : Gl X x := by rfl) (hd : (x == ("__debug__" : Str)) = false := by decide) : Ev X W (.Name x pos) (dC d) := ev_gval hg h.1 h.2 hd
theorem evG_cls (h : X.mg x = some (.ref (He.ga X.K x))) (hg : Gl X x := by rfl) (hd : (x == ("__debug__" : Str)) = false := by decide) : Ev X W (.Name x pos) (dC (.fn x)) := ev_gval hg h (fun _ => rfl) hd
end
theorem bt_ValueError : bootBuiltins "ValueError" = some (.type "ValueError") := by decide +kernel

/-- {} -/
def dDic0 : DE := fun _ S => some (.ok (.ref S.length) (S ++ [.dic []]))
theorem ev_dic0 {X : Cx} {W : WX} {pos : Pos} : Ev X W (.Dict [] [] pos) dDic0 :=
  ⟨pe_imp pe_dnewK fun σ H Q ⟨δ, S, w, r, en, p⟩ a ha => by
    have r2 := r.own (H' := upd H a (.dK [])) ha (fun b hb o e => by rw [upd_ne hb]; exact e) (o := .dic []) ⟨[], upd_same, DatA.nil⟩
    exact p (w.own a) _ (w.own_le a) r2 _ ⟨by rw [← r.len, w.own_at a], by rw [← r.len]; exact Nat.lt_succ_self _⟩⟩
end Cw

set_option maxRecDepth 100000
set_option maxHeartbeats 2000000
set_option linter.all false
/-! Walks over owned lists, as they stand at each turn; min of three; the distinct ones of a list of texts. -/
namespace Cw
open PySem PySem.Spec PyProof.Rows L2

/-- the item of the owned list n at turn i: none where it is no list; some none behind its end -/
def nxtR (n i : Nat) (S : Sto) : Option (Option D) := match S[n]? with
  | some (.lst ds) => some ds[i]?
  | _ => none
/-- a walk over an owned list: what it yields -/
def WalkR (K : PySem.W.Frag) (J : It) (n : Nat) (w1 : Wd) : Prop := ∀ (i : Nat) (S' : Sto) (w' : Wd) (H' : Hp), w1.Kn w' → Rep K S' w' H' →
  (∀ d, nxtR n i S' = some (some d) → J.go i H' ∧ ∀ x H2, J.yld i H' x H2 → ∃ w2, w'.Le w2 ∧ Rep K S' w2 H2 ∧ Dat K w2 d x) ∧ (nxtR n i S' = some none → J.stop i H')
theorem walk_R {K : PySem.W.Frag} {n : Nat} {w1 : Wd} (hn : n < w1.n) : WalkR K (Itl K (w1.a n)) n w1 := fun i S' w' H' e' r' => by
  have key : ∀ ds, S'[n]? = some (.lst ds) → ∃ xs, SqL K H' (w1.a n) xs ∧ Dats K w' ds xs := fun ds h => by
    obtain ⟨_, xs, h1, h2⟩ := r'.obs n _ h
    rw [e'.a n hn] at h1
    exact ⟨xs, SqL.of h1, h2⟩
  refine ⟨fun d hd => ?_, fun hs => ?_⟩
  · unfold nxtR at hd
    split at hd
    · rename_i ds h
      obtain ⟨xs, q, hx⟩ := key ds h
      obtain ⟨v, h1, h2⟩ := hx.get (Option.some.inj hd)
      refine ⟨⟨xs, v, q, h1⟩, fun x H2 ⟨e2, y⟩ => ?_⟩
      have e3 : xs[i]? = some x := y xs q
      rw [h1] at e3
      cases e3
      rw [e2]
      exact ⟨w', Wd.Le.rfl, r', h2⟩
    · cases hd
  · unfold nxtR at hs
    split at hs
    · rename_i ds h
      obtain ⟨xs, q, hx⟩ := key ds h
      exact ⟨xs, q, by rw [hx.len]; exact List.getElem?_eq_none_iff.mp (Option.some.inj hs)⟩
    · cases hs
/-- which owned list: its number, and its length (as many turns at most) -/
def refL (S : Sto) : D → Option (Nat × Nat)
  | .ref n => match S[n]? with
    | some (.lst ds) => some (n, ds.length)
    | _ => none
  | _ => none
abbrev DR := Env → Sto → Option (Out (Nat × Nat))
def iOwn (A : DE) : DR := fun δ S => bnd (A δ S) fun d S1 => up (refL S1 d) S1
def TRv (K : PySem.W.Frag) (W : WX) (I : DR) : TI := fun σ H R => ∃ δ S w, Rep K S w H ∧ EnvOk K w σ δ ∧ Po K W σ w (I δ S) (fun q _ w1 H1 => ∀ J, WalkR K J q.1 w1 → R J H1)
structure Rv (X : Cx) (W : WX) (tg iter : Expr) (I : DR) : Prop where
  pi : PI X tg iter (TRv X.K W I)
theorem rv_own {X : Cx} {W : WX} {tg l : Expr} {A : DE} (h : Ev X W l A) : Rv X W tg l (iOwn A) :=
  ⟨pi_imp (pi_both h.pe) fun σ H R ⟨δ, S, w, r, he, p⟩ => ⟨δ, S, w, r, he, p.bnd.mono fun d S1 w1 H1 e1 r1 p1 v hv => by
    obtain ⟨q, hq, p1⟩ := p1.up r1
    cases d with
    | ref n =>
      have hq' : (match S1[n]? with | some (.lst ds) => some (n, ds.length) | _ => none) = some q := hq
      split at hq'
      · rename_i ds hs
        cases hq'
        obtain ⟨_, xs, h1, h2⟩ := r1.obs n _ hs
        exact ⟨w1.a n, hv.1, .inl ⟨⟨xs, SqL.of h1⟩, p1 _ (walk_R hv.2)⟩⟩
      · cases hq'
    | _ => cases hq⟩⟩
def lcR (n : Nat) (vs : List Nat) (G : DG) (T : DT) (A : DE) : Nat → Nat → Env → Sto → List D → Option (Out (List D))
  | m, i, δ, S, acc => match nxtR n i S with
    | none => none
    | some none => some (.ok acc S)
    | some (some d) => match m with
      | 0 => none
      | m + 1 => match G d (wipeD δ vs) S with
        | none => none
        | some δ1 => bndL (T δ1 S) fun b S1 => if b = true then bndL (A δ1 S1) fun y S2 => if acc.length < big then lcR n vs G T A m (i + 1) δ S2 (acc ++ [y]) else none
          else lcR n vs G T A m (i + 1) δ S1 acc
theorem lcR_run {K : PySem.W.Frag} {W : WX} {σ : L2.St} {I : DR} {vs ws : List Nat} {G : DG} {T : DT} {A : DE} {fin : List D → Sto → Option (Out D)} {Q : VK} (hw : ∀ i ∈ ws, i ∈ vs)
    (hfin : ∀ (acc : List D) (S' : Sto) (w1 w' : Wd) (H' : Hp) (p : Addr) (xs : List V), w1.Kn w' → w'.F = upd w1.F p (.lst xs) → w1.F p = none → w1.H p = none → Rep K S' w' H' → Dats K w' acc xs → Po K W σ w1 (fin acc S') (Got K Q) → Q (.ref p) H')
    {H : Hp} (h : TEv K W (fun δ S => bnd (I δ S) fun q S1 => bnd (lcR q.1 vs G T A q.2 0 δ S1 []) fin) σ H Q) : tLc (TRv K W I) (TGv K ws G) (TTv K WF T) (TEv K WF A) vs σ H Q := by
  obtain ⟨δ, S, w, r, he, p⟩ := h
  refine ⟨δ, S, w, r, he, p.bnd.mono fun q S1 w1 H1 e1 r1 p1 J hJ p hp => ?_⟩
  obtain ⟨n, len⟩ := q
  have pH : w1.H p = none := r1.free hp
  have pF : w1.F p = none := by
    cases q : w1.F p with
    | none => rfl
    | some o =>
      have := (r1.frm p o q).1
      rw [hp] at this
      cases this
  have kn1 : w1.Kn (w1.frame p (.lst [])) := ⟨fun _ _ e => e, Nat.le_refl _, fun _ _ => rfl⟩
  refine ⟨fun i m H' => ∃ acc xs S' w', w1.Kn w' ∧ w'.F = upd w1.F p (.lst xs) ∧ Rep K S' w' H' ∧ Dats K w' acc xs ∧ Po K W σ w1 (bnd (lcR n vs G T A m i δ S' acc) fin) (Got K Q), ⟨len, [], [], S1, _, kn1, rfl, r1.frame hp _, Dats.nil, p1⟩, ?_⟩
  rintro i m H' ⟨acc, xs, S', w', kn, hF, r', hx, p'⟩
  obtain ⟨hgo, hst⟩ := hJ i S' w' H' kn r'
  unfold lcR at p'
  cases hd : nxtR n i S' with
  | none =>
    rw [hd] at p'
    exact p'.elim
  | some o =>
    rw [hd] at p'
    cases o with
    | none => exact .inl ⟨hst hd, hfin acc S' w1 w' H' p xs kn hF pF pH r' hx p'⟩
    | some d =>
      cases m with
      | zero => exact p'.elim
      | succ m =>
        obtain ⟨g1, g2⟩ := hgo d hd
        refine .inr ⟨g1, fun H2 => ∃ acc xs S' w', w1.Kn w' ∧ w'.F = upd w1.F p (.lst xs) ∧ Rep K S' w' H2 ∧ Dats K w' acc xs ∧ Po K W σ w1 (bnd (lcR n vs G T A m (i + 1) δ S' acc) fin) (Got K Q), fun H2 h2 => ⟨m, Nat.lt_succ_self _, h2⟩, fun x H2 y => ?_⟩
        obtain ⟨w2, e2, r2, hx2⟩ := g2 x H2 y
        have p2 : Po K W σ w1 (bnd (match G d (wipeD δ vs) S' with
          | none => none
          | some δ1 => bndL (T δ1 S') fun b S1 => if b = true then bndL (A δ1 S1) fun y S2 => if acc.length < big then lcR n vs G T A m (i + 1) δ S2 (acc ++ [y]) else none
            else lcR n vs G T A m (i + 1) δ S1 acc) fin) (Got K Q) := p'
        cases q : G d (wipeD δ vs) S' with
        | none =>
          rw [q] at p2
          exact p2.elim
        | some δ1 =>
          rw [q] at p2
          have he2 : EnvOk K w2 (wipe σ vs) (wipeD δ vs) := wipe_env ((he.kn e1.kn).kn (⟨fun b o e => e2.h b o (kn.h b o e), Nat.le_trans kn.n e2.n, fun k hk => (e2.a k (Nat.lt_of_lt_of_le hk kn.n)).trans (kn.a k hk)⟩ : w1.Kn w2)) vs
          refine ⟨d, wipeD δ vs, S', w2, δ1, r2, he2, hx2, q, fun σ3 w3 H3 e3 r3 he3 hbut => ⟨wipe_but hbut hw, ?_⟩⟩
          have p3 : Po K W σ w1 (bnd (bndL (T δ1 S') fun b S1 => if b = true then bndL (A δ1 S1) fun y S2 => if acc.length < big then lcR n vs G T A m (i + 1) δ S2 (acc ++ [y]) else none
            else lcR n vs G T A m (i + 1) δ S1 acc) fin) (Got K Q) := p2
          cases qT : T δ1 S' with
          | none =>
            rw [qT] at p3
            exact p3.elim
          | some oT =>
            cases oT with
            | exc x S9 =>
              rw [qT] at p3
              exact p3.elim
            | ok b S4 =>
              rw [qT, bndL_ok] at p3
              refine ⟨δ1, S', w3, r3, he3, ?_⟩
              rw [qT]
              refine fun w4 H4 e4 r4 => ?_
              have kn4 : w1.Kn w4 := ⟨fun b o e => e4.h b o (e3.h b o (e2.h b o (kn.h b o e))), Nat.le_trans kn.n (Nat.le_trans e2.n (Nat.le_trans e3.n e4.n)), fun k hk => by
                have h1 := Nat.lt_of_lt_of_le hk kn.n
                have h2 := Nat.lt_of_lt_of_le h1 e2.n
                have h3 := Nat.lt_of_lt_of_le h2 e3.n
                exact (e4.a k h3).trans ((e3.a k h2).trans ((e2.a k h1).trans (kn.a k hk)))⟩
              have F4 : w4.F = upd w1.F p (.lst xs) := e4.f.trans (e3.f.trans (e2.f.trans hF))
              cases b with
              | false =>
                rw [if_neg Bool.false_ne_true] at p3
                exact iteF ⟨acc, xs, S4, w4, kn4, F4, r4, ((hx.le e2).le e3).le e4, p3⟩
              | true =>
                rw [if_pos rfl] at p3
                refine iteT ⟨δ1, S4, w4, r4, he3.le e4, ?_⟩
                cases qA : A δ1 S4 with
                | none =>
                  rw [qA] at p3
                  exact p3.elim
                | some oA =>
                  cases oA with
                  | exc x S9 =>
                    rw [qA] at p3
                    exact p3.elim
                  | ok y2 S5 =>
                    rw [qA, bndL_ok] at p3
                    by_cases hl : acc.length < big
                    · rw [if_pos hl] at p3
                      intro w5 H5 e5 r5 v hv
                      have F5 : w5.F p = some (.lst xs) := by rw [e5.f, F4, upd_same]
                      refine ⟨xs, (r5.frm p _ F5).1, big_lt (by rw [hx.len]; exact hl), acc ++ [y2], xs ++ [v], S5, w5.frame p (.lst (xs ++ [v])), ⟨fun b o e => e5.h b o (kn4.h b o e), Nat.le_trans kn4.n e5.n, fun k hk => (e5.a k (Nat.lt_of_lt_of_le hk kn4.n)).trans (kn4.a k hk)⟩, ?_, r5.framed F5, ?_, p3⟩
                      · show upd w5.F p _ = _
                        rw [e5.f, F4, upd_upd]
                      · have kf : w5.Kn (w5.frame p (.lst (xs ++ [v]))) := ⟨fun _ _ e => e, Nat.le_refl _, fun _ _ => rfl⟩
                        exact (((((hx.le e2).le e3).le e4).le e5).append (Dats.cons hv Dats.nil)).kn kf
                    · rw [if_neg hl] at p3
                      exact p3.elim
def dLcR (I : DR) (vs : List Nat) (G : DG) (T : DT) (A : DE) : DE := fun δ S => bnd (I δ S) fun q S1 => bnd (lcR q.1 vs G T A q.2 0 δ S1 []) fun xs S2 => some (.ok (.lst xs) S2)
/-- the for statement over an owned list -/
def forR (n : Nat) (G : DG) (B : DS) : Nat → Nat → DS
  | m, i, δ, S => match nxtR n i S with
    | none => none
    | some none => some (.nx δ S)
    | some (some d) => match m with
      | 0 => none
      | m + 1 => match G d δ S with
        | none => none
        | some δ1 => contD (B δ1 S) (forR n G B m (i + 1))
def sForR (I : DR) (G : DG) (B : DS) : DS := fun δ S => bndS (I δ S) δ fun q S1 => forR q.1 G B q.2 0 δ S1
section
variable {X : Cx} {W : WX} {pos : Pos} {k : Nat} {a b c e : Expr} {es : List Expr} {A B C : DE}
theorem ev_lcR {elt tg iter : Expr} {ifs : List Expr} {scope : Scope} {own : List (Str × Nat)} {I : DR} {ws : List Nat} {G : DG} {T : DT} (hc : X.calm = true) (hN : X.N.Nodup) (hi : Rv X W tg iter I) (ok : BlkOk X.N X.env.scope scope own)
    (hg : ∀ (s : Shared) (H : Hp) (C : Addr) (cl : List (Str × Addr)) (fp : List Addr), Gv (X.blk s H scope (compEnvC scope cl C X.env) fp) tg ws G) (ht : ∀ (s : Shared) (H : Hp) (C : Addr) (cl : List (Str × Addr)) (fp : List Addr), Tsv (X.blk s H scope (compEnvC scope cl C X.env) fp) WF ifs T)
    (he : ∀ (s : Shared) (H : Hp) (C : Addr) (cl : List (Str × Addr)) (fp : List Addr), Ev (X.blk s H scope (compEnvC scope cl C X.env) fp) WF elt A) (hs : ∀ x, foldedSetIterable iter X.env x = pure x := by intro _; rfl) (hw : ∀ i ∈ ws, i ∈ own.map (·.2) := by decide) :
    Ev X W (.ListComp elt [⟨tg, iter, ifs, 0⟩] scope pos) (dLcR I (own.map (·.2)) G T A) :=
  ⟨pe_imp (pe_lc hc hN hi.pi ok (fun s H C cl fp => (hg s H C cl fp).pg) (fun s H C cl fp => (ht s H C cl fp).pts) (fun s H C cl fp => (he s H C cl fp).pe) hs) fun σ H Q h => lcR_run hw fin_lst h⟩
theorem forR_le {K : PySem.W.Frag} {w w' : Wd} {D : Ends} {r : Option SOut} (e : w.Le w') (h : PoS K W w D r) : PoS K W w' D r := PoS.le e h
theorem sv_forR {tg iter : Expr} {body : List Stmt} {I : DR} {ws : List Nat} {G : DG} {B : DS} (hp : PassesOwn (model X.prog X.w) X.A X.env X.xe) (hc : X.calm = true) (hi : Rv X W tg iter I) (hg : Gv X tg ws G) (hb : Bv X W body B)
    (hs : ∀ x, foldedSetIterable iter X.env x = pure x := by intro _; rfl) : Sv X W (.For tg iter body [] pos) (sForR I G B) :=
  ⟨ps_imp (ps_for hp hc hi.pi hg.pg hb.pss hs) fun D σ H ⟨δ, S, w, r, he, p⟩ => by
    refine ⟨δ, S, w, r, he, (p.bnd he).mono fun q S1 w1 H1 e1 r1 p1 J hJ => ?_⟩
    obtain ⟨n, len⟩ := q
    refine ⟨fun i m σ' H' => ∃ δ' S' w', w1.Le w' ∧ Rep X.K S' w' H' ∧ EnvOk X.K w' σ' δ' ∧ PoS X.K W w' D (forR n G B m i δ' S'), ⟨len, δ, S1, w1, Wd.Le.rfl, r1, he.le e1, p1⟩, ?_⟩
    rintro i m σ' H' ⟨δ', S', w', e', r', he', p'⟩
    obtain ⟨hgo, hst⟩ := hJ i S' w' H' e'.kn r'
    unfold forR at p'
    cases hd : nxtR n i S' with
    | none =>
      rw [hd] at p'
      exact p'.elim
    | some o =>
      rw [hd] at p'
      cases o with
      | none => exact .inl ⟨hst hd, p' σ' w' H' Wd.Le.rfl r' he'⟩
      | some d =>
        cases m with
        | zero => exact p'.elim
        | succ m =>
          obtain ⟨g1, g2⟩ := hgo d hd
          refine .inr ⟨g1, fun σ2 H2 => ∃ δ2 S2 w2, w1.Le w2 ∧ Rep X.K S2 w2 H2 ∧ EnvOk X.K w2 σ2 δ2 ∧ PoS X.K W w2 D (forR n G B m (i + 1) δ2 S2), fun σ2 H2 h2 => ⟨m, Nat.lt_succ_self _, h2⟩, fun x H2 y => ?_⟩
          obtain ⟨w2, e2, r2, hx⟩ := g2 x H2 y
          have p2 : PoS X.K W w2 D (match G d δ' S' with
            | none => none
            | some δ1 => contD (B δ1 S') (forR n G B m (i + 1))) := PoS.le e2 p'
          cases qg : G d δ' S' with
          | none => rw [qg] at p2; exact p2.elim
          | some δ1 =>
            rw [qg] at p2
            refine ⟨d, δ', S', w2, δ1, r2, he'.le e2, hx, qg, fun σ3 w3 H3 e3 r3 he3 _ => ⟨δ1, S', w3, r3, he3, ?_⟩⟩
            have p3 : PoS X.K W w3 D (contD (B δ1 S') (forR n G B m (i + 1))) := PoS.le e3 p2
            cases qb : B δ1 S' with
            | none => rw [qb] at p3; exact p3.elim
            | some o =>
              rw [qb] at p3
              cases o with
              | nx δ2 S2 => exact fun σ4 w4 H4 e4 r4 he4 => ⟨δ2, S2, w4, e'.trans (e2.trans (e3.trans e4)), r4, he4, PoS.le (r := forR n G B m (i + 1) δ2 S2) e4 p3⟩
              | ct δ2 S2 => exact fun σ4 w4 H4 e4 r4 he4 => ⟨δ2, S2, w4, e'.trans (e2.trans (e3.trans e4)), r4, he4, PoS.le (r := forR n G B m (i + 1) δ2 S2) e4 p3⟩
              | brk δ2 S2 => exact p3
              | ret d S1 => exact p3
              | exc x δ1 S1 => exact p3⟩
end
/-- a walk whose body does not touch the list is the walk over its items -/
theorem lcR_eq {n : Nat} {vs : List Nat} {G : DG} {T : DT} {A : DE} {δ : Env} {S : Sto} {ds0 : List D} (hS : S[n]? = some (.lst ds0)) (hT : ∀ δ1 o, T δ1 S = some o → ∃ b, o = .ok b S) (hA : ∀ δ1 o, A δ1 S = some o → ∃ b, o = .ok b S) :
    ∀ (ds : List D) (i : Nat) (acc : List D), ds0.drop i = ds → lcR n vs G T A ds.length i δ S acc = lcD vs G T A ds δ S acc
  | [], i, acc, h => by
    have hl : ds0.length ≤ i := List.drop_eq_nil_iff.mp h
    unfold lcR nxtR
    rw [hS]
    simp only [List.getElem?_eq_none_iff.mpr hl]
    rfl
  | d :: ds, i, acc, h => by
    have hi : ds0[i]? = some d := by
      have : (ds0.drop i)[0]? = some d := by rw [h]; rfl
      rw [List.getElem?_drop] at this
      simpa using this
    have hd : ds0.drop (i + 1) = ds := by
      have : (ds0.drop i).drop 1 = ds := by rw [h]; rfl
      rw [List.drop_drop] at this
      exact this
    have ih := fun acc => lcR_eq (vs := vs) (G := G) (δ := δ) hS hT hA ds (i + 1) acc hd
    have nx : nxtR n i S = some (some d) := by
      unfold nxtR
      rw [hS]
      simp only [hi]
    rw [List.length_cons]
    unfold lcR lcD
    rw [nx]
    dsimp only
    cases G d (wipeD δ vs) S with
    | none => rfl
    | some δ1 =>
      dsimp only
      cases eT : T δ1 S with
      | none => rfl
      | some o =>
        obtain ⟨b, e⟩ := hT δ1 o eT
        subst e
        rw [bndL_ok, bndL_ok]
        cases b with
        | false => rw [if_neg Bool.false_ne_true, if_neg Bool.false_ne_true, ih]
        | true =>
          rw [if_pos rfl, if_pos rfl]
          cases eA : A δ1 S with
          | none => rfl
          | some o2 =>
            obtain ⟨y, e2⟩ := hA δ1 o2 eA
            subst e2
            rw [bndL_ok, bndL_ok, ih]
/-- min of a list of three ints -/
def minL (x : D) (S : Sto) : Option (D × Sto) := match lsOf S x with
  | some [.int a, .int b, .int c] => some (.int (if c < (if b < a then b else a) then c else (if b < a then b else a)), S)
  | _ => none
theorem nuLt_ii (a b : Int) : nuLt (.int a) (.int b) = some (decide (a < b)) := rfl
theorem nuMin3_ii (a b c : Int) : nuMin3 (.int a) (.int b) (.int c) = some (.int (if c < (if b < a then b else a) then c else (if b < a then b else a))) := by
  unfold nuMin3 nuMin2
  rw [nuLt_ii]
  by_cases h1 : b < a
  · simp only [h1, decide_true, Option.map_some, if_true, Option.bind_some]
    rw [nuLt_ii]
    by_cases h2 : c < b <;> simp [h2]
  · simp only [h1, decide_false, Option.map_some, if_false, Option.bind_some, Bool.false_eq_true]
    rw [nuLt_ii]
    by_cases h2 : c < a <;> simp [h2]
section
variable {X : Cx} {W : WX} {pos : Pos} {k : Nat} {a b c e : Expr} {es : List Expr} {A B C : DE}
theorem b_minL (hc : X.calm = true := by rfl) : CalR X (.builtin "min") (g1 minL) := cal1 (call_minL3 hc) fun x d S S' w H v Q hg r hx q => by
  unfold minL at hg
  split at hg
  · rename_i a b c hi
    obtain ⟨p, xs, e1, h3, h4⟩ := lsOf_at r hx hi
    obtain ⟨v1, r1, e2, a1, h5⟩ := h4
    obtain ⟨v2, r2, e3, a2, h6⟩ := h5
    obtain ⟨v3, r3, e4, a3, h7⟩ := h6
    have e7 : r3 = [] := h7
    subst e2 e3 e4 e7
    obtain rfl : v1 = V.int a := a1
    obtain rfl : v2 = V.int b := a2
    obtain rfl : v3 = V.int c := a3
    cases hg
    exact ⟨p, _, _, _, _, by rw [e1], h3, nuMin3_ii a b c, q w H _ Wd.Le.rfl r rfl⟩
  · cases hg
end
/-- a text split, the list owned from now on -/
def splitVO (x : D) (xs : List D) (S : Sto) : Option (D × Sto) := match x, xs with
  | .str a, [.str b] => if (b.length == 0) = false ∧ a.length + 2 ≤ big then some (.ref S.length, S ++ [.lst ((Txt.split a b).map D.str)]) else none
  | _, _ => none
section
variable {X : Cx} {W : WX} {pos apos : Pos} {k : Nat} {o a b c e : Expr} {es : List Expr} {A B C : DE}
theorem m_splitO : MetR X "str.split" splitVO := ⟨_, mt_split, fun x xs d S S' w H u vs Q hg r hx hxs q => by
  unfold splitVO at hg
  split at hg
  · rename_i a b
    obtain ⟨hl, e⟩ := some_if hg
    cases e
    obtain ⟨v, e1, h1⟩ := dats_one hxs
    subst e1
    exact ⟨a, b, hx, by rw [show v = .str b from h1], hl.1, big_line hl.2, fun p hp => own_lst' r hp (dats_strs _) q⟩
  · cases hg⟩
theorem ev_splitO {L : DA} (ha : Ev X W o B) (hb : Av X W (e :: es) L) (hbase : attributeBase o "split" X.env (eval o X.env) = eval o X.env := by rfl)
    (hfew : ((backTo pos (starEach (e :: es) X.env)).all (fun x => !x.1) && (backToKw pos (keywordEach [] X.env)).all (fun x => x.1.isSome)
      && decide ((e :: es).length + ([] : List Keyword).length + (if ([] : List Keyword).isEmpty then 0 else 1) < 30)) = true := by rfl)
    (hline : (apos.endLine == pos.line) = true := by rfl) (hs : starEach (e :: es) X.env = (false, eval e X.env) :: starEach es X.env := by rfl) (hplain : (backTo pos (starEach es X.env)).any (·.1) = false := by rfl) :
    Ev X W (.Call (.Attribute o "split" apos) (e :: es) [] pos) (dMt "str" splitVO B L) := ev_mt PySem.F.plainAttrs_str PySem.F.slot_str_split m_splitO ha hb PySem.F.type_str_split hbase hfew hline hs hplain
end
end Cw

set_option maxRecDepth 100000
set_option maxHeartbeats 2000000
set_option linter.all false
namespace Cw
open PySem PySem.Spec PyProof.Rows L2

/-! ### the distinct ones of a list of texts -/
def ustep (acc : List Str) (x : Str) : List Str := if acc.any (· == x) then acc else acc ++ [x]
def uS (l : List Str) : List Str := l.foldl ustep []
theorem uS_snoc (l : List Str) (x : Str) : uS (l ++ [x]) = ustep (uS l) x := by
  unfold uS
  rw [List.foldl_append]
  rfl
theorem ustep_any (acc : List Str) (x k : Str) : (ustep acc x).any (· == k) = (acc.any (· == k) || (x == k)) := by
  unfold ustep
  by_cases h : acc.any (· == x) = true
  · rw [if_pos h]
    by_cases e : x = k
    · subst e
      rw [h]
      simp
    · have e2 : (x == k) = false := by simpa using e
      rw [e2, Bool.or_false]
  · rw [if_neg h, List.any_append]
    simp
theorem uS_any (k : Str) : ∀ l : List Str, (uS l).any (· == k) = l.any (· == k) := by
  have key : ∀ (l acc : List Str), (l.foldl ustep acc).any (· == k) = (acc.any (· == k) || l.any (· == k)) := by
    intro l
    induction l with
    | nil => intro acc; simp
    | cons x l ih => intro acc; rw [List.foldl_cons, ih, ustep_any, List.any_cons, Bool.or_assoc]
  intro l
  show (l.foldl ustep []).any _ = _
  rw [key]
  simp
theorem uS_le (l : List Str) : (uS l).length ≤ l.length := by
  have key : ∀ (l acc : List Str), (l.foldl ustep acc).length ≤ acc.length + l.length := by
    intro l
    induction l with
    | nil => intro acc; simp
    | cons x l ih =>
      intro acc
      have z := ih (ustep acc x)
      have q : (ustep acc x).length ≤ acc.length + 1 := by
        unfold ustep
        split
        · omega
        · simp
      rw [List.foldl_cons, List.length_cons]
      omega
  have z := key l []
  rw [List.length_nil] at z
  show (l.foldl ustep []).length ≤ _
  omega
section
variable {prog : Program} {w : World} {A : Around} {R : Result → Shared → Prop} {I : Addr} {fp wr : List Addr} {G : Array GenState → Array GenState → Prop} {n : Nat} {P : Nat → Value → Prop} {St : Nat → Shared → Prop}
theorem loopU (W : WalksS prog w A.in1 I fp wr G n P St) (Z : Addr) (hZ : Z ∉ fp) (xs : List Str) (hsz : xs.length = n) (room : xs.length + 1 < scanBound)
    (hval : ∀ i v, P i v → ∃ x t, xs[i]? = some x ∧ v = .str x t) :
    ∀ (k i : Nat) (s : Shared), n - i = k → i ≤ n → St i s →
      s.heap.SetOf (PySem.strKind prog w) Z (fun j => (xs.take i).any (· == j)) (uS (xs.take i)).length →
      (∀ s', Moved (Z :: wr) G s s' → s'.heap.SetOf (PySem.strKind prog w) Z (fun j => xs.any (· == j)) (uS xs).length → R (.ok (.ret .none)) s') →
      codeAny (model prog w) A (.builtin "set.update.loop" ⟨[.ref Z, .ref I], []⟩) R s := by
  have hZw : Z ∉ wr := fun h => hZ (W.sub _ h)
  have more : ∀ b ∈ wr, b ∈ Z :: wr := fun b hb => List.mem_cons_of_mem _ hb
  intro k
  induction k with
  | zero =>
    intro i s hk hi hst hS hR
    have hin : i = n := by omega
    subst hin
    rw [List.take_of_length_le (by omega)] at hS
    refine codeAny_builtin PyProof.Rows.F.entry_set_update_loop ?_
    rw [Around.under_plainId PyProof.Rows.F.plain_set_update_loop _]
    show wpAny _ A.in1 (pyNext (.ref I) >>= _) _ _ s
    refine wpAny_bind (W.done s _ _ hst fun s' hm => ?_)
    show wpAny _ A.in1 (ret Value.none) _ _ s'
    refine wpAny_pure (hR s' (hm.mono more) ?_)
    obtain ⟨o, es, ep, t, ho, rest⟩ := hS
    exact ⟨o, es, ep, t, hm.heap Z _ hZw ho, rest⟩
  | succ k ih =>
    intro i s hk hi hst hS hR
    have hlt : i < n := by omega
    refine codeAny_builtin PyProof.Rows.F.entry_set_update_loop ?_
    rw [Around.under_plainId PyProof.Rows.F.plain_set_update_loop _]
    show wpAny _ A.in1 (pyNext (.ref I) >>= _) _ _ s
    refine wpAny_bind (W.item i s _ _ hlt hst fun v s' hP hst' hm => ?_)
    obtain ⟨x, t, hx, rfl⟩ := hval i v hP
    have hS' : s'.heap.SetOf (PySem.strKind prog w) Z (fun j => (xs.take i).any (· == j)) (uS (xs.take i)).length := by
      obtain ⟨o, es, ep, tb, ho, rest⟩ := hS
      exact ⟨o, es, ep, tb, hm.heap Z _ hZw ho, rest⟩
    show wpAny _ A.in1 (holding [Value.str x t] (setAdd Z (.str x t)) >>= _) _ _ s'
    refine wpAny_bind (wpAny_holding ?_)
    unfold setAdd
    refine wpAny_holding ?_
    refine wpAny_bind ((PySem.strKind prog w).pyHash (k := x) (strKind_is _ _ _ _) ?_)
    refine wpAny_setAddHashed_of (knd := PySem.strKind prog w) (s := { s' with toks := s'.toks + 1 }) (strKind_is _ _ _ _) rfl hS' (by
      have := uS_le (xs.take i)
      rw [List.length_take] at this
      unfold scanBound at room ⊢
      omega) fun h' hsb hS2 => ?_
    have tk : xs.take (i + 1) = xs.take i ++ [x] := by rw [List.take_add_one, hx]; rfl
    have hSi : h'.SetOf (PySem.strKind prog w) Z (fun j => (xs.take (i + 1)).any (· == j)) (uS (xs.take (i + 1))).length := by
      refine SetOf_congr hS2 (fun j => ?_) ?_
      · rw [tk, List.any_append]
        by_cases e : j = x
        · subst e; simp
        · have e1 : (x == j) = false := by simpa [beq_iff_eq] using (fun h : x = j => e h.symm)
          simp [e, e1]
      · rw [tk, uS_snoc]
        unfold ustep
        rw [uS_any]
        by_cases hq : (xs.take i).any (· == x) = true
        · rw [if_pos hq, if_pos hq]
        · rw [if_neg hq, if_neg hq, List.length_append, List.length_singleton]
    refine wpAny_pure ⟨plainId_quiet PyProof.Rows.F.plain_set_update_loop _, ih (i + 1) _ (by omega) hlt (W.frame _ s' _ _ hst' (Nat.le_succ _) fun b hb o e => ?_) hSi fun s'' hm'' hS'' => ?_⟩
    · rw [hsb.2 b (fun h : b = Z => hZ (by rw [← h]; exact hb))]; exact e
    · refine hR s'' (Moved.trans W.gtrans ((hm.mono more).then_heap (Nat.le_succ _) fun b o hb e => ?_) hm'') hS''
      rw [hsb.2 b (fun h : b = Z => hb (by rw [h]; exact List.mem_cons_self))]; exact e
end
section
variable {prog : Program} {w : World} {A : Around} {E : Value → Shared → Prop} {s : Shared}
set_option maxHeartbeats 3200000 in
theorem call_set_texts {l : Addr} {items : Array Value} {xs : List Str} {Q : Value → Shared → Prop}
    (hh : A.handled = none) (hl : s.heap.IsList l items) (hi : PyProof.Rows.StrsAre items.toList xs) (room : xs.length + 1 < scanBound)
    (h : ∀ (h' : Heap) (tk : Nat), h'.SetOf (PySem.strKind prog w) s.heap.objs.size (fun j => xs.any (· == j)) (uS xs).length →
      (∀ b o, b < s.heap.objs.size → s.heap.get? b = some o → h'.get? b = some o) → Q (.ref s.heap.objs.size) { s with heap := h', toks := tk }) :
    wpAny (model prog w) A (call (.type "set") [.ref l]) Q E s := by
  obtain ⟨c, tl, hmro⟩ := PySem.F.called_set.mro
  have hmade := PySem.F.called_set.made
  have hsub := PySem.F.called_set.sub
  refine wpAny_call (codeAny_of_tree ?_)
  show wpAny _ _ (callAny (.type "set") _) _ _ _
  refine wpAny_pure ⟨Code.quiet_builtin _ (by decide +kernel), codeAny_builtin PySem.F.entry_type_call ?_⟩
  rw [Around.under_plain (weight_type_call_type "set" [.ref l] []) rfl]
  have h1 := PySem.F.called_set.notType
  have h2 := PySem.F.called_set.canCreate
  have hct := PySem.F.typeCall_set_1 (.ref l)
  repeat (any_goals (first | assumption | wp_step))

  refine codeAny_mono (code_set_new_1 (.ref l) (E := E) (Q₁ := fun obj s₁ => ∃ led : Bool, obj = .ref s.heap.objs.size ∧ s₁ = { s with heap := s.heap.push { cls := .type "set", dict := none, data := .set #[] 0 (.fresh 0 0 led) } }) fun led => ⟨led, rfl, rfl⟩) fun r s₁ hr => ?_
  cases r with
  | error e => exact hr
  | ok fl =>
    cases fl with
    | ret obj =>
      obtain ⟨led, rfl, rfl⟩ := hr
      have hS : (s.heap.push { cls := .type "set", dict := none, data := .set #[] 0 (.fresh 0 0 led) }).get? s.heap.objs.size = some { cls := .type "set", dict := none, data := .set #[] 0 (.fresh 0 0 led) } := Heap.get?_push_size _ rfl
      have hT : Shared.TypeIs { s with heap := s.heap.push { cls := .type "set", dict := none, data := .set #[] 0 (.fresh 0 0 led) } } (.ref s.heap.objs.size) "set" := ⟨_, hS, rfl⟩
      have hli := PySem.F.called_set.init.lookup
      have hbi := PySem.F.called_set.init.bind (.ref s.heap.objs.size)
      repeat (any_goals (first | assumption | wp_step))

      refine codeAny_mono (codeAny_call_builtin (R := wants (fun r s₂ => r = .none ∧ ∃ h' tk, s₂ = { s with heap := h', toks := tk } ∧
          h'.SetOf (PySem.strKind prog w) s.heap.objs.size (fun j => xs.any (· == j)) (uS xs).length ∧
          (∀ b o, b < s.heap.objs.size → s.heap.get? b = some o → h'.get? b = some o)) E) PySem.F.called_set.init.plain PySem.F.entry_set_init (check_set_init_1 hT ?_)) fun r₂ s₂ hr₂ => ?_
      · obtain ⟨ol, hol, hcl, nl, hdl⟩ := hl
        obtain ⟨ocls, odict, odata, oslots⟩ := ol
        simp only at hcl hdl
        subst hcl; subst hdl
        have hol' : (s.heap.push { cls := .type "set", dict := none, data := .set #[] 0 (.fresh 0 0 led) }).get? l = some { cls := .type "list", dict := odict, data := .seq items nl, slots := oslots } := Heap.get?_push_of_some _ hol
        have hsls := PySem.F.sub_list_set
        have hslf := PySem.F.sub_list_frozenset
        have hne : (Value.type "list" == Value.type "dict") = false := by decide
        have hl1 : (s.heap.push { cls := .type "set", dict := none, data := .set #[] 0 (.fresh 0 0 led) }).IsList l items := ⟨_, hol', rfl, nl, rfl⟩
        unfold Builtin.«set.__init__» noKeywords Builtin.Frozenset.updateFrom
        generalize hPI : pyIter = PI
        wp_walk
        subst hPI

        refine wpAny_pyIter_list hl1 ?_
        refine wpAny_bind (wpAny_runValue ?_)
        have hlS : l < s.heap.objs.size := Heap.lt_size hol
        have hh3 : A.in1.in1.in1.handled = none := by simp [hh]
        have hneI : l ≠ (s.heap.push { cls := .type "set", dict := none, data := .set #[] 0 (.fresh 0 0 led) }).objs.size := by
          rw [Heap.size_push]; exact Nat.ne_of_lt (Nat.lt_succ_of_lt hlS)
        have hSf : s.heap.objs.size ∉ [(s.heap.push { cls := .type "set", dict := none, data := .set #[] 0 (.fresh 0 0 led) }).objs.size, l] := by
          rw [Heap.size_push]; simp only [List.mem_cons, List.mem_singleton, List.not_mem_nil, or_false, not_or]
          exact ⟨Nat.ne_of_lt (Nat.lt_succ_self _), Nat.ne_of_gt hlS⟩
        have hsz : xs.length = items.size := by rw [← StrsAre.len_eq hi, Array.length_toList]
        have hval : ∀ (i : Nat) (v : Value), items[i]? = some v → ∃ x t, xs[i]? = some x ∧ v = .str x t := fun i v hv => by
          have hi2 : i < xs.length := by rw [hsz]; exact (Array.getElem?_eq_some_iff.mp hv).1
          obtain ⟨t, e⟩ := SS.strs_at hi i v (by rw [Array.getElem?_toList]; exact hv)
          refine ⟨xs[i], t, List.getElem?_eq_getElem hi2, ?_⟩
          rw [e, List.getD_eq_getElem?_getD, List.getElem?_eq_getElem hi2] <;> rfl
        refine loopU ((Walks.list hh3 _ l hneI items).toS) s.heap.objs.size
          hSf xs hsz room hval (items.size - 0) 0 _ (by omega) (Nat.zero_le _)
          ⟨⟨_, Heap.get?_push_size _ rfl, rfl, rfl⟩, (hl1.push _)⟩ ?hS0 ?hR
        case hS0 =>
          have hget : ((s.heap.push { cls := .type "set", dict := none, data := .set #[] 0 (.fresh 0 0 led) }).push { cls := .type "list_iterator", data := .fields #[.ref l, .int 0 0] }).get? s.heap.objs.size
              = some { cls := .type "set", dict := none, data := .set #[] 0 (.fresh 0 0 led) } := Heap.get?_push_of_some _ hS
          exact PyProof.Rows.SetOf_congr ((PyProof.Rows.setObjOf_fresh (knd := PySem.strKind prog w) led).setOf hget (by unfold scanBound; omega)) (fun _ => rfl) rfl
        case hR =>
          intro s' hm hS'
          obtain ⟨h', g', d', tk', os'⟩ := s'
          have eg : g' = s.gens := hm.gens
          have ed : d' = s.drawn := hm.drawn
          have eo : os' = s.os := hm.os
          subst eg; subst ed; subst eo
          show wpAny _ _ _ _ _ _
          refine wpAny_pure ?_
          show wpAny _ _ (ret Value.none) _ _ _
          refine wpAny_pure ⟨rfl, h', tk', rfl, hS', fun b o hb e => ?_⟩
          have hb1 : b ≠ s.heap.objs.size := Nat.ne_of_lt hb
          have hb2 : b ≠ (s.heap.push { cls := .type "set", dict := none, data := .set #[] 0 (.fresh 0 0 led) }).objs.size := by
            rw [Heap.size_push]; exact Nat.ne_of_lt (Nat.lt_succ_of_lt hb)
          exact hm.heap b o (by simp only [List.mem_cons, List.mem_singleton, List.not_mem_nil, or_false, not_or]; exact ⟨hb1, hb2⟩) (Heap.get?_push_of_some _ (Heap.get?_push_of_some _ e))

      · cases r₂ with
        | error e => exact hr₂
        | ok fl₂ =>
          cases fl₂ with
          | ret r =>
            obtain ⟨rfl, h', tk, rfl, hS', hk'⟩ := hr₂
            repeat (any_goals (first | assumption | wp_step))
            exact h _ _ hS' hk'
          | _ => exact hr₂.elim
    | _ => exact hr.elim


end
section
variable {X : Cx} {W : WX} {pos : Pos} {A : DE}
theorem strs_vals : ∀ {ns : List Str} {us : List Value}, Vals (ns.map V.str) us → StrsAre us ns
  | [], _, .nil => .nil
  | n :: ns, _, .cons r t => by
    obtain ⟨k, rfl⟩ := r
    exact .cons n k (strs_vals t)
/-- len(set(xs)), xs a list of texts -/
def lenSetS (x : D) (S : Sto) : Option D := match lsOf S x with
  | some ds => (txs ds).bind fun ns => if ns.length ≤ 4000 then some (.int (uS ns).length) else none
  | _ => none
def dLenSetS (A : DE) : DE := fun δ S => bnd (A δ S) fun x S1 => up (lenSetS x S1) S1
def tLenSetS (K : PySem.W.Frag) (ta : TE) : TE := fun σ H Q => ta σ H fun x H1 => ∃ (l : Addr) (ns : List Str), x = .ref l ∧ SqL K H1 l (ns.map V.str) ∧ ns.length ≤ 4000 ∧ Q (.int (uS ns).length) H1
theorem pe_lenSetS {ta : TE} {p p2 q pos : Pos} {a : Expr} (hc : X.calm = true) (hg : Gl X "len") (hm : X.mg "len" = none) (hg2 : Gl X "set") (hm2 : X.mg "set" = none) (ha : PE X a ta)
    (na : starEach [a] X.env = (false, eval a X.env) :: starEach [] X.env := by rfl) : PE X (.Call (.Name "len" p) [.Call (.Name "set" p2) [a] [] q] [] pos) (tLenSetS X.K ta) := by
  refine ⟨fun pins s σ H Q I h => Call_ (ld_blt I hg hm PySem.boot_len (PyProof.Rows.callWith_builtin1 (PyProof.Rows.args_cons (Call_ (ld_blt I hg2 hm2 PyProof.Rows.boot_set ?_)) rfl) rfl rfl))⟩
  refine PyProof.Rows.callWith_type1 (PyProof.Rows.args_cons (thn (ha.run pins s σ H _ I h) fun v s1 ⟨x, H1, I1, r1, l, ns, ex, hq, hl, q1⟩ => PyProof.Rows.args_nil ?_) na) na rfl
  subst ex
  obtain rfl : v = Value.ref l := r1
  obtain ⟨its, rv, pl, hz⟩ := I1.list hq
  refine call_set_texts (xs := ns) (I1.ok.hd hc) pl.isList (by simpa using strs_vals rv) (by unfold scanBound; omega) fun h' tk hS hk => PyProof.Rows.args_nil ?_
  obtain ⟨ob, ents, ep, tb, ho, hex, hd, _, _, hb, hf, hsz⟩ := hS
  have I2 : Inv X pins σ H1 { s1 with heap := h', toks := tk } := I1.kept fun b o e => hk b o (Heap.lt_size e) e
  refine call_len_set ho hex hd hf (by unfold scanBound at hb; omega) ⟨.int (uS ns).length, H1, I2.tok _, ⟨_, by rw [hsz]⟩, q1⟩
theorem ev_lenSetS {p p2 q pos : Pos} {a : Expr} (hc : X.calm = true) (hg : Gl X "len") (hm : X.mg "len" = none) (hg2 : Gl X "set") (hm2 : X.mg "set" = none) (ha : Ev X W a A)
    (na : starEach [a] X.env = (false, eval a X.env) :: starEach [] X.env := by rfl) : Ev X W (.Call (.Name "len" p) [.Call (.Name "set" p2) [a] [] q] [] pos) (dLenSetS A) :=
  ⟨pe_imp (pe_lenSetS hc hg hm hg2 hm2 ha.pe na) fun σ H Q ⟨δ, S, w, r, he, p⟩ => ⟨δ, S, w, r, he, p.bnd.mono fun x S1 w1 H1 e1 r1 p1 v hv => by
    obtain ⟨d, h1, p1⟩ := p1.up r1
    unfold lenSetS at h1
    split at h1
    · rename_i ds hds
      obtain ⟨ns, h2, h3⟩ := Option.bind_eq_some_iff.mp h1
      obtain ⟨hl, e⟩ := some_if h3
      subst e
      obtain ⟨p, xs, e2, h4, h5⟩ := lsOf_at r1 hv hds
      refine ⟨p, ns, e2, ?_, hl, p1 _ rfl⟩
      rw [← strs_ok h5 h2]
      exact h4
    · cases h1⟩⟩
end
end Cw

set_option maxRecDepth 100000
set_option maxHeartbeats 2000000
set_option linter.all false
/-! The law's own call where its code object has a table. -/
namespace Cw
open PySem PySem.Spec PyProof.Rows L2
abbrev frzL (vs : List Value) (ns : List Int) : HO := .frz { cls := .type "list", data := .seq vs.toArray } (.lst (ns.map V.int))
theorem law_gT {P : Program} {w : World} {K : PySem.W.Frag} {mg mb : Str → Option Value} {k : Nat} {fa a c PT : Addr} {q : Str} {fd : FuncData} {x : Str} {F : Fn} {s1 : Shared} {vs : List Value} {ns : List Int}
    (kin : K.In s1.heap) (hns : s1.heap.Ns mainGlobals mg) (hb : s1.heap.Ns builtinsNs mb) (hbb : ∀ x : Str, x ≠ "__name__" → mb x = bootBuiltins x) (lim : s1.heap.NoLimit) (gen : s1.gens = #[])
    (hT : s1.heap.get? PT = some { cls := .none, data := .fields #[] }) (nT : K.lookup PT = none) (C : PySem.W.CodeHd s1.heap c PT)
    (hbm : ∃ (bm : Addr) (ob : Obj), mg "__builtins__" = some (.ref bm) ∧ bm ≠ builtinsNs ∧ s1.heap.get? bm = some ob ∧ ob.cls = .type "module" ∧ ob.dict = some builtinsNs ∧ ob.data = .plain)
    (ha : s1.heap.get? a = some { cls := .type "list", data := .seq vs.toArray }) (hi : IntsAre vs ns) (hl : ns.length ≤ sizeLine) (hr : Room k callerA)
    (g : ∀ base : Heap, K.In base → base.Ns mainGlobals mg → LamX.TabB base mg c PT → GnOk P w K mg base k fa fd [x] F) (hbind : ∀ (s : Shared) (u : Value), BindsTo s fd ⟨[u], []⟩ [(x, u)])
    (hF : ∃ S', F [.scr (ns.map D.int)] [.tab PT q] = some (.ok (.bl true) S')) :
    codeAny (model P w) callerA (.call (.ref fa) ⟨[.ref a], []⟩) (fun r s' => r = .ok (.ret (.bool true)) ∧ OldK s1.heap s'.heap ∧ s'.os = s1.os ∧ AllBare s'.gens) s1 := by
  have aT : a ≠ PT := fun z => by
    rw [z, hT] at ha
    cases ha
  have rv := vals_ints hi
  have lenV := hi.length
  have core : ∀ G : Hp, G PT = some (.tbl #[]) → (∀ b o, b ≠ PT → G b = some o → b = a ∧ K.lookup a = none ∧ o = frzL vs ns) → SqL K (fun b => if b = PT then none else G b) a (ns.map V.int) → HOk P w G s1.heap →
      codeAny (model P w) callerA (.call (.ref fa) ⟨[.ref a], []⟩) (fun r s' => r = .ok (.ret (.bool true)) ∧ OldK s1.heap s'.heap ∧ s'.os = s1.os ∧ AllBare s'.gens) s1 := by
    intro G hP hG sq hok
    have keep : ∀ {b : Addr} {o : Obj}, s1.heap.get? b = some o → (∀ us n, o.data ≠ .seq us n) → o.data ≠ .fields #[] → (hidT s1.heap G).get? b = some o := fun {b o} e h1 h2 => hidT_get e (by
      cases z : G b with
      | none => rfl
      | some u =>
        by_cases hbP : b = PT
        · rw [hbP, hT] at e
          cases e
          exact absurd rfl h2
        · obtain ⟨hba, _, _⟩ := hG b u hbP z
          rw [hba, ha] at e
          cases e
          exact absurd rfl (h1 _ _))
    have nsK : ∀ {b : Addr} {m : Str → Option Value}, s1.heap.Ns b m → (hidT s1.heap G).Ns b m := fun {b m} ⟨o, es, ep, e, dd, r⟩ => ⟨o, es, ep, keep e (fun us n z => by rw [dd] at z; cases z) (fun z => by rw [dd] at z; cases z), dd, r⟩
    have kinb : K.In (hidT s1.heap G) := fun b o e => hidT_get (kin b o e) (by
      cases z : G b with
      | none => rfl
      | some u =>
        by_cases hbP : b = PT
        · rw [hbP, nT] at e
          cases e
        · obtain ⟨hba, kz, _⟩ := hG b u hbP z
          rw [hba, kz] at e
          cases e)
    have md : L2.Mod K mg (hidT s1.heap G) := ⟨kinb, nsK hns, ⟨mb, nsK hb, hbb⟩, lim.elim fun mc h => ⟨mc, nsK h.1, h.2⟩⟩
    have TB : LamX.TabB (hidT s1.heap G) mg c PT := by
      refine ⟨?_, ?_, fun z => ?_⟩
      · obtain ⟨o, us, file, tf, flags, tg, inF, text, tt, e1, r1, r2, r3, rest⟩ := C
        exact ⟨o, us, file, tf, flags, tg, inF, text, tt, keep e1 (fun us n z => by rw [r2] at z; cases z) (fun z => by rw [r2] at z; cases z; simp at r3), r1, r2, r3, rest⟩
      · obtain ⟨bm, ob, b1, b2, b3, b4, b5, b6⟩ := hbm
        refine ⟨bm, ob, b1, b2, fun z => ?_, fun z => ?_, keep b3 (fun us n z => by rw [b6] at z; cases z) (fun z => by rw [b6] at z; cases z), b4, b5, b6⟩
        · obtain ⟨o, es, ep, e, hd, _⟩ := hns
          rw [z, e] at b3
          cases b3
          rw [hd] at b6
          cases b6
        · rw [z, hT] at b3
          cases b3
          cases b6
      · obtain ⟨o, es, ep, e, hd, _⟩ := hns
        rw [z, hT] at e
        cases e
        cases hd
    have e0 : Env0 P w K mg (hidT s1.heap G) callerA [] s1 G := ⟨rfl, md, fun b o e => of_hidT e, Nat.le_of_eq (hidT_size _ _), trivial, fun b hb => (nomatch (show b ∈ ([] : List Addr) from hb)), hok, .of_eq gen⟩
    let wd : Wd := ⟨fun b => if b = PT then none else G b, fun _ => PT, 1, fun _ => none⟩
    have rep : Rep K [.tab PT q] wd G := by
      refine ⟨fun b o e => ?_, rfl, fun j o e => ?_, fun i j hi hj _ => ?_, fun b o e => by cases e⟩
      · have e' : (if b = PT then none else G b) = some o := e
        by_cases hb : b = PT
        · rw [if_pos hb] at e'
          cases e'
        · rw [if_neg hb] at e'
          exact e'
      · cases j with
        | zero =>
          cases e
          exact ⟨if_pos rfl, rfl, #[], hP, True.intro, fun pos cv z => by
            have z' : codeAmong pos [] = some cv := z
            simp [codeAmong] at z'⟩
        | succ j => simp at e
      · have h1 : i < 1 := hi
        have h2 : j < 1 := hj
        omega
    have dint : ∀ l : List Int, Dats K wd (l.map D.int) (l.map V.int) := fun l => by
      induction l with
      | nil => exact Dats.nil
      | cons i l ih => exact Dats.cons (d := .int i) rfl ih
    have dat : Dats K wd [.scr (ns.map D.int)] [.ref a] := Dats.cons (d := .scr (ns.map D.int)) ⟨a, ns.map V.int, rfl, sq, dint ns⟩ Dats.nil
    refine codeAny_mono ((g _ kinb (nsK hns) TB).run callerA [] s1 G ⟨[.ref a], []⟩ [.ref a] [.ref a] (fun v H' => v = .bl true) (fun _ _ _ => False) hr rfl e0 (hbind s1 (.ref a)) (.cons rfl .nil) ⟨_, [.tab PT q], wd, rfl, rep, dat, ?_⟩) fun r s' h => ?_
    · obtain ⟨S', hF⟩ := hF
      rw [hF]
      exact fun v w' H' e r hv => hv
    · cases r with
      | error e =>
        obtain ⟨_, _, _, _, _, _, _, _, _, _, _, _, z⟩ := (show L2.CX P w [] G s1 (fun _ _ _ => False) e s' from h)
        exact z.elim
      | ok fl =>
        cases fl with
        | next => exact False.elim h
        | brk => exact False.elim h
        | cont => exact False.elim h
        | ret u =>
          obtain ⟨v, H', os, bare, un, hok', r', qq⟩ := (show CE [] P w G s1 (fun v H' => v = .bl true) u s' from h)
          subst qq
          obtain rfl : u = Value.bool true := r'
          obtain ⟨more, hmore⟩ := un.tbls PT #[] hP
          have gP : s'.heap.get? PT = some { cls := .none, data := .fields (#[] ++ more) } := hok' PT _ hmore
          have old : ∀ b o, b ≠ PT → s1.heap.get? b = some o → s'.heap.get? b = some o := fun b o hbP e => by
            cases z : G b with
            | none => exact un.keep b o e z (fun z => nomatch (show b ∈ ([] : List Addr) from z)) (fun z => nomatch (show b ∈ ([] : List Addr) from z))
            | some u =>
              obtain ⟨_, _, eu⟩ := hG b u hbP z
              subst eu
              obtain ⟨e1, _⟩ := hok b _ z
              obtain ⟨e2, _⟩ := hok' b _ (un.frzs b _ _ z)
              rw [e] at e1
              cases e1
              exact e2
          refine ⟨rfl, ⟨fun b o e => ?_, fun b o e => ?_⟩, os, bare⟩
          · by_cases hbP : b = PT
            · subst hbP
              rw [hT] at e
              cases e
              exact .inr (.inl ⟨(C.tab hT).isCodeTable, rfl, #[], more, rfl, gP⟩)
            · exact .inl (old b o hbP e)
          · by_cases hbP : b = PT
            · subst hbP
              exact ⟨_, gP⟩
            · exact ⟨o, old b o hbP e⟩
  cases hk : K.lookup a with
  | some o =>
    have e := kin a o hk
    rw [ha] at e
    cases e
    refine core (fun b => if b = PT then some (.tbl #[]) else none) (if_pos rfl) (fun b o hb z => ?_) (.inr ⟨_, vs.toArray, _, hk, rfl, rfl, rfl, by rw [List.size_toArray, lenV]; exact hl, by simpa using rv⟩) fun b u z => ?_
    · rw [if_neg hb] at z
      cases z
    · by_cases hb : b = PT
      · subst hb
        have z' : some (HO.tbl #[]) = some u := (if_pos rfl).symm.trans z
        cases z'
        exact hT
      · have z' : none = some u := (if_neg hb).symm.trans z
        cases z'
  | none =>
    refine core (fun b => if b = PT then some (.tbl #[]) else if b = a then some (frzL vs ns) else none) (if_pos rfl) (fun b o hb z => ?_) (.inl (.inr ⟨{ cls := .type "list", data := .seq vs.toArray }, ?_⟩)) fun b u z => ?_
    · rw [if_neg hb] at z
      by_cases hba : b = a
      · rw [if_pos hba] at z
        cases z
        exact ⟨hba, hk, rfl⟩
      · rw [if_neg hba] at z
        cases z
    · show (if a = PT then none else if a = PT then some (HO.tbl #[]) else if a = a then some (frzL vs ns) else none) = _
      rw [if_neg aT, if_neg aT, if_pos rfl]
    · by_cases hb : b = PT
      · subst hb
        have z' : some (HO.tbl #[]) = some u := (if_pos rfl).symm.trans z
        cases z'
        exact hT
      · have z1 : (if b = a then some (frzL vs ns) else none) = some u := (if_neg hb).symm.trans z
        by_cases hba : b = a
        · rw [if_pos hba] at z1
          cases z1
          subst hba
          exact ⟨ha, by rw [List.length_map]; exact hl, vs, _, rv, ha⟩
        · rw [if_neg hba] at z1
          cases z1
/-- the end of a law whose code object has a table -/
theorem walk_gT {l : PySem.W.OpenLaw} {n k : Nat} {qp : Program} {loose : List Str} {XP : (Str → Option Value) → Heap → Prop} {YP : World → Heap → Prop} {d : DefRec} {x q : Str} {F : Addr → Fn}
    (hn : l.most = some n) (hn2 : n ≤ sizeLine) (hdf : d.params.defaults = []) (hr : Room k callerA)
    (h : ∀ (w : World) (mg : Str → Option Value) (fa : Addr) (h : Heap), YP w h → h.Ns mainGlobals mg → mg d.name = some (.ref fa) →
      ∃ (K : PySem.W.Frag) (fd : FuncData) (c PT : Addr), K.In h ∧ h.get? PT = some { cls := .none, data := .fields #[] } ∧ K.lookup PT = none ∧ PySem.W.CodeHd h c PT ∧ (∀ (s : Shared) (u : Value), BindsTo s fd ⟨[u], []⟩ [(x, u)]) ∧
        ∀ base : Heap, K.In base → base.Ns mainGlobals mg → LamX.TabB base mg c PT → GnOk l.prog w K mg base k fa fd [x] (F PT))
    (hF : ∀ (PT : Addr) (ns : List Int), ns.length ≤ n → ∃ S', F PT [.scr (ns.map D.int)] [.tab PT q] = some (.ok (.bl true) S')) :
    PySem.W.WalkO qp loose XP YP l.row.toRowW d [] (fun f vs => PySem.call f vs) := by
  refine Att.attach_call hn hdf fun w s0 s1 mg mb fa o pm cd doc a vs ns G Y ho hd hcd hmg hobj hints hlen hg => ?_
  obtain ⟨K, fd, c, PT, kin, hT, nT, C, hb, g⟩ := h w mg fa _ Y G.T.g hmg
  exact law_gT kin G.T.g G.T.b G.T.builtins G.T.nolimit hg hT nT C G.T.bmain hobj hints (Nat.le_trans hlen hn2) hr g hb (hF PT ns hlen)
end Cw

set_option maxRecDepth 100000
set_option maxHeartbeats 2000000
set_option linter.all false
/-! The head's look, the class statics looked at, too. -/
namespace Cw
open PySem PySem.Spec PyProof.Rows L2
def asC (g : Addr → Option Obj) (n : Nat) : List Addr := He.asD g n ++ [cStatics]
def obsC (n : Nat) (fa : List He.Fa) (fn : List He.DefD) (tf : List He.Defn) (ex : PySem.W.Frag → Bool) (g : Addr → Option Obj) : He.AlX :=
  (He.obsT fa fn [] (He.frT g (asC g n)), ex (He.frT g (asC g n)) && He.tabsB g tf (He.frT g (asC g n)))
theorem saysC_of {n : Nat} {fa : List He.Fa} {fn : List He.DefD} {tf : List He.Defn} {ex : PySem.W.Frag → Bool} {w : World} {h : Heap} (e : obsC n fa fn tf ex h.get? = He.valX fn [] w) : He.SaysX fa fn [] tf ex w h (He.frT h.get? (asC h.get? n)) := by
  have e1 : He.obsT fa fn [] (He.frT h.get? (asC h.get? n)) = He.valT fn [] w := congrArg (fun z : He.AlX => z.1) e
  have e2 : (ex (He.frT h.get? (asC h.get? n)) && He.tabsB h.get? tf (He.frT h.get? (asC h.get? n))) = true := congrArg (fun z : He.AlX => z.2) e
  obtain ⟨h1, h2⟩ := He.ba e2
  have key : ∀ p ∈ tf, PySem.W.codeHdIn (He.frT h.get? (asC h.get? n)) (He.cT (He.frT h.get? (asC h.get? n)) p).1 (He.cT (He.frT h.get? (asC h.get? n)) p).2 = true ∧ ∃ o, h.get? (He.cT (He.frT h.get? (asC h.get? n)) p).2 = some o ∧ He.emptyTab o = true := fun p hp => by
    obtain ⟨h3, h4⟩ := He.ba (List.all_eq_true.mp h2 p hp)
    refine ⟨h3, ?_⟩
    cases q : h.get? (He.cT (He.frT h.get? (asC h.get? n)) p).2 with
    | none =>
      rw [q] at h4
      cases h4
    | some o =>
      rw [q] at h4
      exact ⟨o, rfl, h4⟩
  refine ⟨e1, h1, fun p hp => (key p hp).1, fun p hp => ?_, fun p hp => ?_⟩
  · obtain ⟨_, o, q, z⟩ := key p hp
    exact He.frT_none q z
  · obtain ⟨_, o, q, z⟩ := key p hp
    rw [q, He.emptyTab_eq z]
def hookC (n : Nat) (fa : List He.Fa) (fn : List He.DefD) (tf : List He.Defn) (ex : PySem.W.Frag → Bool) : PySem.W.Hook where
  α := He.AlX
  obs := fun s => obsC n fa fn tf ex s.heap.get?
  val := fun w => He.valX fn [] w
  says := fun w h => ∃ K : PySem.W.Frag, K.In h ∧ He.SaysX fa fn [] tf ex w h K
  of := fun _ _ e => ⟨_, He.frT_in, saysC_of e⟩
  keeps := fun _ _ _ ⟨K, hK, c⟩ k => ⟨K, PySem.W.Frag.In.keeps hK k, ⟨c.t, c.more, c.hd, c.out, fun p hp => k _ _ (c.empty p hp)⟩⟩
theorem obsC_eq {n : Nat} {fa : List He.Fa} {fn : List He.DefD} {tf : List He.Defn} {ex : PySem.W.Frag → Bool} {g : Addr → Option Obj} {s : Shared} (h : ∀ a, g a = s.heap.get? a) : obsC n fa fn tf ex g = (hookC n fa fn tf ex).obs s := by
  have e : g = s.heap.get? := funext h
  rw [e] <;> rfl
end Cw

set_option maxRecDepth 100000
set_option maxHeartbeats 2000000
set_option linter.all false
/-! The dens, unfolded by simp; the pen. -/
namespace Cw
open PySem PySem.Spec PyProof.Rows L2

section
variable {δ : Env} {S : Sto} {A B C : DE} {T T2 : DT} {L : DA} {P Q : DS} {d : D} {i n : Nat}
@[simp] theorem z_var : dVar i δ S = up (match δ[i]? with | some (some d) => some d | _ => none) S := rfl
@[simp] theorem z_c : dC d δ S = some (.ok d S) := rfl
@[simp] theorem z_op {g : D → D → Sto → Option (D × Sto)} : dOp g A B δ S = bnd (A δ S) fun x S1 => bnd (B δ S1) fun y S2 => upS (g x y S2) := rfl
@[simp] theorem z_asT : asT A δ S = bnd (A δ S) fun x S1 => up (match x with | .bl b => some b | _ => none) S1 := rfl
@[simp] theorem z_tand : tAndD T T2 δ S = bnd (T δ S) fun x S1 => if x = true then T2 δ S1 else some (.ok false S1) := rfl
@[simp] theorem z_tor : tOrD T T2 δ S = bnd (T δ S) fun x S1 => if x = true then some (.ok true S1) else T2 δ S1 := rfl
@[simp] theorem z_tnot : tNotD T δ S = bnd (T δ S) fun x S1 => some (.ok (!x) S1) := rfl
@[simp] theorem z_and : dAnd A B δ S = bnd (A δ S) fun x S1 => match x with | .bl true => B δ S1 | .bl false => some (.ok (.bl false) S1) | _ => none := rfl
@[simp] theorem z_or : dOr A B δ S = bnd (A δ S) fun x S1 => match x with | .bl true => some (.ok (.bl true) S1) | .bl false => B δ S1 | _ => none := rfl
@[simp] theorem z_not : dNot A δ S = bnd (A δ S) fun x S1 => match x with | .bl b => some (.ok (.bl (!b)) S1) | _ => none := rfl
@[simp] theorem z_dif : dIf T A B δ S = bnd (T δ S) fun x S1 => if x = true then A δ S1 else B δ S1 := rfl
@[simp] theorem z_nil : aNil δ S = some (.ok [] S) := rfl
@[simp] theorem z_cons : aCons A L δ S = bnd (A δ S) fun x S1 => bnd (L δ S1) fun xs S2 => some (.ok (x :: xs) S2) := rfl
@[simp] theorem z_tup : dTup L δ S = bnd (L δ S) fun xs S1 => if xs.length ≤ big then some (.ok (.tup xs) S1) else none := rfl
@[simp] theorem z_lst : dLst L δ S = bnd (L δ S) fun xs S1 => if xs.length ≤ big then some (.ok (.lst xs) S1) else none := rfl
@[simp] theorem z_lstO : dLstO L δ S = bnd (L δ S) fun xs S1 => if xs.length ≤ big then some (.ok (.ref S1.length) (S1 ++ [.lst xs])) else none := rfl
@[simp] theorem z_call {F : Fn} {ds0 : List D} : dCall F n ds0 L δ S = bnd (L δ S) fun xs S1 => if (xs ++ ds0).length = n then F (xs ++ ds0) S1 else none := rfl
@[simp] theorem z_cb {g : List D → Sto → Option (D × Sto)} : dCB g L δ S = bnd (L δ S) fun xs S1 => upS (g xs S1) := rfl
@[simp] theorem z_mt {t : String} {g : D → List D → Sto → Option (D × Sto)} : dMt t g A L δ S = bnd (A δ S) fun x S1 => if tyD S1 t x = true then bnd (L δ S1) fun xs S2 => upS (g x xs S2) else none := rfl
@[simp] theorem z_seq : sSeq P Q δ S = match P δ S with | none => none | some (.nx δ1 S1) => Q δ1 S1 | some o => some o := rfl
@[simp] theorem z_next : sNext δ S = some (.nx δ S) := rfl
@[simp] theorem z_brk : sBrk δ S = some (.brk δ S) := rfl
@[simp] theorem z_if : sIf T P Q δ S = bndS (T δ S) δ fun b S1 => if b = true then P δ S1 else Q δ S1 := rfl
@[simp] theorem z_asg {G : DG} : sAsg A G δ S = bndS (A δ S) δ fun d S1 => match G d δ S1 with | some δ1 => some (.nx δ1 S1) | none => none := rfl
@[simp] theorem z_sub : sSub A B C δ S = bndS (A δ S) δ fun d S1 => bndS (B δ S1) δ fun x S2 => bndS (C δ S2) δ fun y S3 => match setV x y d S3 with
  | some S4 => some (.nx δ S4)
  | none => none := rfl
@[simp] theorem z_expr : sExpr A δ S = bndS (A δ S) δ fun _ S1 => some (.nx δ S1) := rfl
@[simp] theorem z_ret : sRet A δ S = bndS (A δ S) δ fun d S1 => some (.ret d S1) := rfl
@[simp] theorem z_nm : gNm i d δ S = some (δ.set i (some d)) := rfl
@[simp] theorem z_sl {lo hi : Option DE} : dSl A lo hi δ S = bnd (A δ S) fun x S1 => bnd (oPart lo δ S1) fun l S2 => bnd (oPart hi δ S2) fun u S3 => upS (slV x l u S3) := rfl
@[simp] theorem z_pn : oPart none δ S = some (.ok none S) := rfl
@[simp] theorem z_ps : oPart (some A) δ S = bnd (A δ S) fun x S1 => match x with
  | .int i => some (.ok (some i) S1)
  | _ => none := rfl
end
@[simp] theorem add_ii (i j : Int) (S : Sto) : addV (.int i) (.int j) S = some (.int (i + j), S) := rfl
@[simp] theorem sub_ii (i j : Int) (S : Sto) : subV (.int i) (.int j) S = some (.int (i - j), S) := rfl
theorem mul_ii {i j : Int} {S : Sto} (h : midI i ∨ midI j) : mulV (.int i) (.int j) S = some (.int (i * j), S) := if_pos h
theorem div_ii {i j : Int} {S : Sto} (h : 0 < j ∧ j < 1073741824) : divV (.int i) (.int j) S = some (.int (i / j), S) := if_pos h
theorem mod_ii {i j : Int} {S : Sto} (h : 0 < j) : modV (.int i) (.int j) S = some (.int (i % j), S) := if_pos h
theorem pow_ii {i j : Int} {S : Sto} (h : 0 ≤ j ∧ j ≤ 1000000 ∧ i.natAbs < 2 ^ 64) : powV (.int i) (.int j) S = some (.int (i ^ j.toNat), S) := if_pos h
@[simp] theorem lt_ii (i j : Int) (S : Sto) : ltV (.int i) (.int j) S = some (.bl (decide (i < j)), S) := rfl
@[simp] theorem le_ii (i j : Int) (S : Sto) : leV (.int i) (.int j) S = some (.bl (decide (i ≤ j)), S) := rfl
@[simp] theorem gt_ii (i j : Int) (S : Sto) : gtV (.int i) (.int j) S = some (.bl (decide (j < i)), S) := rfl
@[simp] theorem ge_ii (i j : Int) (S : Sto) : geV (.int i) (.int j) S = some (.bl (decide (j ≤ i)), S) := rfl
@[simp] theorem eq_ii (i j : Int) (S : Sto) : eqV' (.int i) (.int j) S = some (.bl (decide (i = j)), S) := rfl
@[simp] theorem ne_ii (i j : Int) (S : Sto) : neV' (.int i) (.int j) S = some (.bl (!decide (i = j)), S) := rfl
@[simp] theorem eq_ss (i j : Str) (S : Sto) : eqV' (.str i) (.str j) S = some (.bl (decide (i = j)), S) := rfl
@[simp] theorem ne_ss (i j : Str) (S : Sto) : neV' (.str i) (.str j) S = some (.bl (!decide (i = j)), S) := rfl
@[simp] theorem int_i (i : Int) (S : Sto) : int1 (.int i) S = some (.int i, S) := rfl
@[simp] theorem int_b (b : Bool) (S : Sto) : int1 (.bl b) S = some (.int (if b then 1 else 0), S) := rfl
@[simp] theorem abs_i (i : Int) (S : Sto) : abs1 (.int i) S = some (.int (if i < 0 then -i else i), S) := rfl
@[simp] theorem len_l (ds : List D) (S : Sto) : len1 (.lst ds) S = some (.int ds.length, S) := rfl
@[simp] theorem len_t (ds : List D) (S : Sto) : len1 (.tup ds) S = some (.int ds.length, S) := rfl

theorem for_nil {G : DG} {B : DS} {δ : Env} {S : Sto} : forD G B [] δ S = some (.nx δ S) := rfl
theorem for_nm {B : DS} {i : Nat} {d : D} {ds : List D} {δ : Env} {S : Sto} : forD (gNm i) B (d :: ds) δ S = contD (B (δ.set i (some d)) S) (forD (gNm i) B ds) := rfl
theorem for_at {G : DG} {B : DS} {d : D} {ds : List D} {δ δ1 : Env} {S : Sto} (h : G d δ S = some δ1) : forD G B (d :: ds) δ S = contD (B δ1 S) (forD G B ds) := by
  show (match G d δ S with
    | none => none
    | some δ1 => contD (B δ1 S) (forD G B ds)) = _
  rw [h]

theorem lc_end {vs : List Nat} {G : DG} {T : DT} {A : DE} {δ : Env} {S : Sto} {acc : List D} : lcD vs G T A [] δ S acc = some (.ok acc S) := rfl
theorem lc_nm {A : DE} {i : Nat} {d : D} {ds : List D} {δ : Env} {S : Sto} {acc : List D} : lcD [i] (gNm i) tYesD A (d :: ds) δ S acc =
    bndL (A ((wipeD δ [i]).set i (some d)) S) fun y S2 => if acc.length < big then lcD [i] (gNm i) tYesD A ds δ S2 (acc ++ [y]) else none := rfl
theorem lc_at {A : DE} {vs : List Nat} {G : DG} {d : D} {ds : List D} {δ δ1 : Env} {S : Sto} {acc : List D} (h : G d (wipeD δ vs) S = some δ1) : lcD vs G tYesD A (d :: ds) δ S acc =
    bndL (A δ1 S) fun y S2 => if acc.length < big then lcD vs G tYesD A ds δ S2 (acc ++ [y]) else none := by
  show (match G d (wipeD δ vs) S with
    | none => none
    | some δ1 => bndL (tYesD δ1 S) fun b S1 => if b = true then bndL (A δ1 S1) fun y S2 => if acc.length < big then lcD vs G tYesD A ds δ S2 (acc ++ [y]) else none
      else lcD vs G tYesD A ds δ S1 acc) = _
  rw [h]
  rfl
/-- a comprehension whose turns leave the store as it is -/
theorem lc_map {A : DE} {vs : List Nat} {G : DG} {δ : Env} {S : Sto} {f : D → D} : ∀ {ds acc : List D}, (∀ d ∈ ds, ∃ δ1, G d (wipeD δ vs) S = some δ1 ∧ A δ1 S = some (.ok (f d) S)) → acc.length + ds.length ≤ big → lcD vs G tYesD A ds δ S acc = some (.ok (acc ++ ds.map f) S)
  | [], acc, _, _ => by
    rw [lc_end, List.map_nil, List.append_nil]
  | d :: ds, acc, h, hl => by
    obtain ⟨δ1, h1, h2⟩ := h d List.mem_cons_self
    rw [List.length_cons] at hl
    rw [lc_at h1, h2, bndL_ok, if_pos (by omega), lc_map (fun x hx => h x (List.mem_cons_of_mem _ hx)) (by rw [List.length_append, List.length_singleton]; omega), List.append_assoc]
    rfl

/-! ### the pen -/
def pen (cs : List Int) (a l : Int) : Ob := .dic [(.inr "cells", .lst (cs.map .int)), (.inr "at", .int a), (.inr "left", .int l)]
section
variable {S : Sto} {cs : List Int} {a l b : Int}
theorem ix_cells (h : S[0]? = some (pen cs a l)) : ixV (.ref 0) (.str "cells") S = some (.lst (cs.map .int), S) := by
  unfold ixV dicOf
  simp only [h, pen]
  rfl
theorem ix_at (h : S[0]? = some (pen cs a l)) : ixV (.ref 0) (.str "at") S = some (.int a, S) := by
  unfold ixV dicOf
  simp only [h, pen]
  rfl
theorem ix_left (h : S[0]? = some (pen cs a l)) : ixV (.ref 0) (.str "left") S = some (.int l, S) := by
  unfold ixV dicOf
  simp only [h, pen]
  rfl
theorem set_at (h : S[0]? = some (pen cs a l)) : setV (.ref 0) (.str "at") (.int b) S = some (S.set 0 (pen cs b l)) := by
  unfold setV
  simp only [h, pen]
  rfl
theorem set_left (h : S[0]? = some (pen cs a l)) : setV (.ref 0) (.str "left") (.int b) S = some (S.set 0 (pen cs a b)) := by
  unfold setV
  simp only [h, pen]
  rfl
theorem at_set (h : S[0]? = some (pen cs a l)) (o : Ob) : (S.set 0 o)[0]? = some o := by
  have : 0 < S.length := (List.getElem?_eq_some_iff.mp h).1
  rw [List.getElem?_set_self this]
end
mutual
/-- plain data of depth k at most, its texts sound -/
def shD : Nat → D → Bool
  | _, .non => true
  | _, .bl _ => true
  | _, .int _ => true
  | _, .str s => PyData.strOk s
  | 0, .tup _ => false
  | k + 1, .tup ds => shDs k ds
  | 0, .lst _ => false
  | k + 1, .lst ds => shDs k ds
  | _, .scr _ => false
  | _, .ref _ => false
  | _, .fn _ => false
  | _, .ty _ => false
def shDs : Nat → List D → Bool
  | _, [] => true
  | k, d :: ds => shD k d && shDs k ds
end
mutual
theorem shD_py : ∀ {k : Nat} {d : D}, shD k d = true → ∃ x, py d = some x ∧ x.canLay0 = true ∧ x.depth ≤ k
  | _, .non, _ => ⟨.none, rfl, rfl, Nat.zero_le _⟩
  | _, .bl b, _ => ⟨.bool b, rfl, rfl, Nat.zero_le _⟩
  | _, .int i, _ => ⟨.int i, rfl, rfl, Nat.zero_le _⟩
  | _, .str s, h => ⟨.str s, rfl, h, Nat.zero_le _⟩
  | k + 1, .tup ds, h => by
    obtain ⟨xs, h1, h2, h3⟩ := shDs_py (k := k) (ds := ds) h
    exact ⟨.tuple xs, by show (pys ds).map PyData.tuple = _; rw [h1]; rfl, h2, Nat.succ_le_succ h3⟩
  | k + 1, .lst ds, h => by
    obtain ⟨xs, h1, h2, h3⟩ := shDs_py (k := k) (ds := ds) h
    exact ⟨.list xs, by show (pys ds).map PyData.list = _; rw [h1]; rfl, h2, Nat.succ_le_succ h3⟩
theorem shDs_py : ∀ {k : Nat} {ds : List D}, shDs k ds = true → ∃ xs, pys ds = some xs ∧ PyData.canLayAll0 xs = true ∧ PyData.depthAll xs ≤ k
  | _, [], _ => ⟨[], rfl, rfl, Nat.zero_le _⟩
  | k, d :: ds, h => by
    have h' : (shD k d && shDs k ds) = true := h
    rw [Bool.and_eq_true] at h'
    obtain ⟨x, h1, h2, h3⟩ := shD_py h'.1
    obtain ⟨xs, h4, h5, h6⟩ := shDs_py h'.2
    refine ⟨x :: xs, ?_, ?_, Nat.max_le.mpr ⟨h3, h6⟩⟩
    · show (match py d, pys ds with | some x, some xs => some (x :: xs) | _, _ => none) = _
      rw [h1, h4]
    · show (x.canLay0 && PyData.canLayAll0 xs) = true
      rw [h2, h5]
      rfl
end
theorem pys_nil_iff : ∀ {ds : List D} {xs : List PyData}, pys ds = some xs → (PyData.eqvAll xs [] = decide (ds = []))
  | [], xs, h => by
    cases h
    rfl
  | d :: ds, xs, h => by
    have h' : (match py d, pys ds with | some x, some xs => some (x :: xs) | _, _ => none) = some xs := h
    split at h'
    · cases h'
      rfl
    · cases h'
theorem ne_nil {x : D} {ds : List D} {S : Sto} (hx : lstOf S x = some ds) (h : shDs 60 ds = true) : neV' x (.lst []) S = some (.bl (!decide (ds = [])), S) := by
  obtain ⟨xs, h1, h2, h3⟩ := shDs_py h
  have hp : pyS S x = some (.list xs) := by
    cases x with
    | lst es =>
      cases hx
      show (pys ds).map PyData.list = _
      rw [h1]
      rfl
    | ref n =>
      show (match lstOf S (.ref n) with | some ds => (pys ds).map PyData.list | none => none) = _
      rw [hx]
      show (pys ds).map PyData.list = _
      rw [h1]
      rfl
    | _ => cases hx
  have hs : SeqAt.shaped (.list xs) = true := by
    unfold SeqAt.shaped
    rw [Bool.and_eq_true]
    refine ⟨h2, decide_eq_true ?_⟩
    show PyData.depthAll xs + 1 ≤ 64
    omega
  have he : eqs x (.lst []) = none := by
    cases x with
    | lst es => rfl
    | ref n => rfl
    | _ => cases hx
  unfold neV' eqvV
  rw [he, hp]
  show (if SeqAt.shaped (PyData.list xs) = true ∧ SeqAt.shaped (PyData.list []) = true then some (PyData.eqv (.list xs) (.list [])) else none).map _ = _
  rw [if_pos ⟨hs, by decide +kernel⟩]
  show some (D.bl (!PyData.eqvAll xs []), S) = _
  rw [pys_nil_iff h1]
theorem shDs_ints : ∀ (k : Nat) (cs : List Int), shDs k (cs.map D.int) = true
  | _, [] => rfl
  | k, c :: cs => by
    show (shD k (.int c) && shDs k (cs.map D.int)) = true
    rw [shDs_ints k cs]
    rfl
theorem ixN_nat {n : Nat} {i : Int} (h0 : 0 ≤ i) (h : i < n) : ixN n i = some i.toNat := by
  unfold ixN
  simp only [h0, h, if_true, if_false, and_self] <;> first | rfl | (split <;> first | rfl | omega)
theorem ixl {cs : List Int} {S : Sto} {i : Int} (h0 : 0 ≤ i) (h : i < cs.length) : ixV (.lst (cs.map .int)) (.int i) S = some (.int (cs.getD i.toNat 0), S) := by
  have hi : i.toNat < cs.length := by omega
  have e : L2.atI (cs.map D.int) i = some (.int (cs.getD i.toNat 0)) := by
    unfold L2.atI
    rw [List.length_map, ixN_nat h0 h]
    show (cs.map D.int)[i.toNat]? = _
    rw [List.getElem?_map, List.getElem?_eq_getElem hi, List.getD_eq_getElem?_getD, List.getElem?_eq_getElem hi]
    rfl
  show (L2.atI (cs.map D.int) i).map (fun d => (d, S)) = _
  rw [e]
  rfl
def mix (a cell m : Int) : Int := ((((cell % 2147483563 + 70997 * a + 79) ^ 5 % 2147483647) * (a + 65539) + 85009 * a * a) ^ 3 % 2147483399) / 32 % m
theorem mix_lt {a cell m : Int} (h : 0 < m) : 0 ≤ mix a cell m ∧ mix a cell m < m := ⟨Int.emod_nonneg _ (by omega), Int.emod_lt_of_pos _ h⟩
theorem abs_le {x b : Int} (h1 : 0 ≤ x) (h2 : x < b) : x.natAbs < b.toNat := by omega

/-! ### the store at a def's end -/
theorem lowDs_ints (n : Nat) : ∀ cs : List Int, lowDs n (cs.map D.int) = true
  | [] => rfl
  | c :: cs => by
    show (lowD n (.int c) && lowDs n (cs.map D.int)) = true
    rw [lowDs_ints n cs]
    rfl
theorem lowDs_strs (n : Nat) : ∀ cs : List Str, lowDs n (cs.map D.str) = true
  | [] => rfl
  | c :: cs => by
    show (lowD n (.str c) && lowDs n (cs.map D.str)) = true
    rw [lowDs_strs n cs]
    rfl
theorem lowDs_map {α : Type} (n : Nat) (f : α → D) (h : ∀ x, lowD n (f x) = true) : ∀ l : List α, lowDs n (l.map f) = true
  | [] => rfl
  | c :: cs => by
    show (lowD n (f c) && lowDs n (cs.map f)) = true
    rw [lowDs_map n f h cs, h c]
    rfl
theorem lowO_pen (n : Nat) (cs : List Int) (a l : Int) : lowO n (pen cs a l) = true := by
  show (lowDs n (cs.map D.int) && (true && (true && true))) = true
  rw [lowDs_ints]
  rfl
/-- a pen that was asked m times at most -/
def PenOk (m : Nat) (o : Ob) : Prop := ∃ cs a l, o = pen cs a l ∧ 0 ≤ a ∧ a ≤ (m : Int) ∧ 0 ≤ l
theorem PenOk.mono {m n : Nat} {o : Ob} (h : PenOk m o) (k : m ≤ n) : PenOk n o := by
  obtain ⟨cs, a, l, h1, h2, h3, h4⟩ := h
  exact ⟨cs, a, l, h1, h2, by omega, h4⟩
theorem PenOk.low {m n : Nat} {o : Ob} (h : PenOk m o) : lowO n o = true := by
  obtain ⟨cs, a, l, h1, _⟩ := h
  rw [h1]
  exact lowO_pen n cs a l
theorem cut_ok {F : Fn} {ds : List D} {o o' : Ob} {T X : Sto} {v : D} (h : F ds (o :: T) = some (.ok v (o' :: (T ++ X)))) (hv : lowD (T.length + 1) v = true) (ho : lowO (T.length + 1) o' = true) : cutF F ds (o :: T) = some (.ok v (o' :: T)) := by
  have k : Keeps (o :: T) (o' :: (T ++ X)) := by
    refine ⟨by simp, fun j oj hj e => ?_⟩
    cases j with
    | zero =>
      right
      have : o' = oj := by simpa using e
      rw [← this]
      exact ho
    | succ j =>
      left
      have hj' : j < T.length := by simpa using hj
      rw [List.getElem?_cons_succ, List.getElem?_append_left hj'] at e
      rw [List.getElem?_cons_succ]
      exact e
  unfold cutF
  rw [h]
  show (match outD (T.length + 1) (o' :: (T ++ X)) v with
    | some d' => if Keeps (o :: T) (o' :: (T ++ X)) then some (Out.ok d' ((o' :: (T ++ X)).take (T.length + 1))) else none
    | none => none) = _
  unfold outD
  rw [if_pos hv]
  show (if Keeps (o :: T) (o' :: (T ++ X)) then some (Out.ok v ((o' :: (T ++ X)).take (T.length + 1))) else none) = _
  rw [if_pos k]
  simp
theorem keeps_app (S X : Sto) : Keeps S (S ++ X) := ⟨by simp, fun j oj hj e => .inl (by rw [List.getElem?_append_left hj] at e; exact e)⟩
theorem cut_pure {F : Fn} {ds : List D} {S X : Sto} {v : D} (h : F ds S = some (.ok v (S ++ X))) (hv : lowD S.length v = true) : cutF F ds S = some (.ok v S) := by
  unfold cutF
  rw [h]
  show (match outD S.length (S ++ X) v with
    | some d' => if Keeps S (S ++ X) then some (Out.ok d' ((S ++ X).take S.length)) else none
    | none => none) = _
  unfold outD
  rw [if_pos hv]
  show (if Keeps S (S ++ X) then some (Out.ok v ((S ++ X).take S.length)) else none) = _
  rw [if_pos (keeps_app S X)]
  simp
/-- a list that is handed out -/
theorem cut_list {F : Fn} {ds xs : List D} {S X : Sto} (h : F ds S = some (.ok (.ref S.length) (S ++ Ob.lst xs :: X))) (hx : lowDs S.length xs = true) : cutF F ds S = some (.ok (.lst xs) S) := by
  unfold cutF
  rw [h]
  have e : outD S.length (S ++ Ob.lst xs :: X) (.ref S.length) = some (.lst xs) := by
    unfold outD
    rw [if_neg (by show ¬ decide (S.length < S.length) = true; simp)]
    show (match (S ++ Ob.lst xs :: X)[S.length]? with
      | some (.lst xs) => if S.length ≤ S.length ∧ lowDs S.length xs = true then some (D.lst xs) else none
      | _ => none) = _
    rw [List.getElem?_append_right (Nat.le_refl _), Nat.sub_self]
    show (if S.length ≤ S.length ∧ lowDs S.length xs = true then some (D.lst xs) else none) = _
    rw [if_pos ⟨Nat.le_refl _, hx⟩]
  show (match outD S.length (S ++ Ob.lst xs :: X) (.ref S.length) with
    | some d' => if Keeps S (S ++ Ob.lst xs :: X) then some (Out.ok d' ((S ++ Ob.lst xs :: X).take S.length)) else none
    | none => none) = _
  rw [e]
  show (if Keeps S (S ++ Ob.lst xs :: X) then some (Out.ok (D.lst xs) ((S ++ Ob.lst xs :: X).take S.length)) else none) = _
  rw [if_pos (keeps_app S _)]
  simp
/-- while: so many turns are enough -/
theorem while_mono {C : DT} {B : DS} : ∀ {n : Nat} {δ : Env} {S : Sto} {o : SOut}, whileD C B n δ S = some o → whileD C B (n + 1) δ S = some o
  | 0, _, _, _, h => by cases h
  | n + 1, δ, S, o, h => by
    have h' : bndS (C δ S) δ (fun b S1 => if b = true then contD (B δ S1) (whileD C B n) else some (.nx δ S1)) = some o := h
    show bndS (C δ S) δ (fun b S1 => if b = true then contD (B δ S1) (whileD C B (n + 1)) else some (.nx δ S1)) = some o
    cases c : C δ S with
    | none => rw [c] at h'; cases h'
    | some oc =>
      rw [c] at h'
      cases oc with
      | exc x S1 => exact h'
      | ok b S1 =>
        rw [bndS_ok] at h' ⊢
        cases b with
        | false => exact h'
        | true =>
          rw [if_pos rfl] at h' ⊢
          cases e : B δ S1 with
          | none => rw [e] at h'; cases h'
          | some ob =>
            rw [e] at h'
            cases ob with
            | nx δ2 S2 => exact while_mono (n := n) h'
            | ct δ2 S2 => exact while_mono (n := n) h'
            | brk δ2 S2 => exact h'
            | ret d S2 => exact h'
            | exc x δ2 S2 => exact h'
theorem while_le {C : DT} {B : DS} {n m : Nat} {δ : Env} {S : Sto} {o : SOut} (h : whileD C B n δ S = some o) (k : n ≤ m) : whileD C B m δ S = some o := by
  induction k with
  | refl => exact h
  | step _ ih => exact while_mono ih
theorem while_eq {C : DT} {B : DS} {n : Nat} {δ : Env} {S : Sto} {o : SOut} (h : whileD C B n δ S = some o) : sWhile C B δ S = some o := by
  have ex : ∃ n, (whileD C B n δ S).isSome = true := ⟨n, by rw [h]; rfl⟩
  unfold sWhile
  rw [dif_pos ex]
  obtain ⟨o2, h2⟩ := Option.isSome_iff_exists.mp ex.choose_spec
  have a1 := while_le h (Nat.le_max_left n ex.choose)
  have a2 := while_le h2 (Nat.le_max_right n ex.choose)
  rw [a1] at a2
  cases a2
  exact h2
end Cw

set_option maxRecDepth 100000
set_option maxHeartbeats 2000000
set_option linter.all false
/-! Owned lists in a store; books as data. -/
namespace Cw
open PySem PySem.Spec PyProof.Rows L2

section
variable {S : Sto} {n : Nat} {ds : List D} {d : D} {i : Int}
theorem ty_ref (h : S[n]? = some (.lst ds)) : tyD S "list" (.ref n) = true := by
  unfold tyD lsOf lstOf
  simp only [h]
  decide
theorem len_ref (h : S[n]? = some (.lst ds)) : len1 (.ref n) S = some (.int ds.length, S) := by
  unfold len1 items
  simp only [h]
  rfl
theorem own_ref (h : S[n]? = some (.lst ds)) : ownL S (.ref n) = some (n, ds) := by
  unfold ownL
  simp only [h]
theorem tuple_ref (h : S[n]? = some (.lst ds)) : tuple1 (.ref n) S = some (.tup ds, S) := by
  unfold tuple1 lsOf lstOf
  simp only [h]
  rfl
theorem seqIndex_nat {m : Nat} (h0 : 0 ≤ i) (h : i < m) : seqIndex? i m = some i.toNat := StrLaws.seqIndex_nonneg h0 h
theorem pop_ref (h : S[n]? = some (.lst ds)) (h0 : 0 ≤ i) (h1 : i < ds.length) (h2 : ds.length < 1048576) : popV (.ref n) [.int i] S = some (ds.getD i.toNat .non, S.set n (.lst (ds.eraseIdx i.toNat))) := by
  have hi : i.toNat < ds.length := by omega
  have hs : isSmall i := by unfold isSmall; omega
  unfold popV
  rw [own_ref h]
  show (if isSmall i then (match seqIndex? i ds.length with
    | some k => match ds[k]? with
      | some d => some (d, S.set n (.lst (ds.eraseIdx k)))
      | none => none
    | none => none) else none) = _
  rw [if_pos hs, seqIndex_nat h0 h1]
  show (match ds[i.toNat]? with
      | some d => some (d, S.set n (.lst (ds.eraseIdx i.toNat)))
      | none => none) = _
  rw [List.getD_eq_getElem?_getD, List.getElem?_eq_getElem hi]
  rfl
theorem app_ref (h : S[n]? = some (.lst ds)) (h1 : ds.length < big) : appendV (.ref n) [d] S = some (.non, S.set n (.lst (ds ++ [d]))) := by
  unfold appendV
  rw [own_ref h]
  exact if_pos h1
end
theorem ixN_ok {n : Nat} {i : Int} (h0 : 0 ≤ i) (h : i < n) : ixN n i = some i.toNat := ixN_nat h0 h
theorem atI_ok {ds : List D} {i : Int} (h0 : 0 ≤ i) (h : i < ds.length) : L2.atI ds i = some (ds.getD i.toNat .non) := by
  have hi : i.toNat < ds.length := by omega
  unfold L2.atI
  rw [ixN_nat h0 h]
  show ds[i.toNat]? = _
  rw [List.getD_eq_getElem?_getD, List.getElem?_eq_getElem hi]
  rfl
theorem ix_ref {S : Sto} {n : Nat} {ds : List D} {i : Int} (h : S[n]? = some (.lst ds)) (h0 : 0 ≤ i) (h1 : i < ds.length) : ixV (.ref n) (.int i) S = some (ds.getD i.toNat .non, S) := by
  unfold ixV dicOf items
  simp only [h]
  rw [atI_ok h0 h1]
  rfl
theorem ix_tup {S : Sto} {ds : List D} {i : Int} (h0 : 0 ≤ i) (h1 : i < ds.length) : ixV (.tup ds) (.int i) S = some (ds.getD i.toNat .non, S) := by
  show (L2.atI ds i).map (fun d => (d, S)) = _
  rw [atI_ok h0 h1]
  rfl
theorem ix_lst {S : Sto} {ds : List D} {i : Int} (h0 : 0 ≤ i) (h1 : i < ds.length) : ixV (.lst ds) (.int i) S = some (ds.getD i.toNat .non, S) := by
  show (L2.atI ds i).map (fun d => (d, S)) = _
  rw [atI_ok h0 h1]
  rfl
theorem add_tt {a b : List D} {S : Sto} (h : a.length + b.length ≤ big) : addV (.tup a) (.tup b) S = some (.tup (a ++ b), S) := if_pos h
theorem add_ll {a b : List D} {S : Sto} (h : a.length + b.length ≤ big) : addV (.lst a) (.lst b) S = some (.lst (a ++ b), S) := if_pos h
theorem lst_ref {S : Sto} {n : Nat} {ds : List D} (h : S[n]? = some (.lst ds)) : lstOf S (.ref n) = some ds := by
  unfold lstOf
  simp only [h]
theorem shDs_map {α : Type} {k : Nat} {f : α → D} : ∀ {l : List α}, (∀ x ∈ l, shD k (f x) = true) → shDs k (l.map f) = true
  | [], _ => rfl
  | x :: l, h => by
    show (shD k (f x) && shDs k (l.map f)) = true
    rw [h x List.mem_cons_self, shDs_map fun y hy => h y (List.mem_cons_of_mem _ hy)]
    rfl
section
variable {o A B : Ob} {T R : Sto}
theorem at1 : (o :: (T ++ A :: R))[T.length + 1]? = some A := by simp
theorem at2 : (o :: (T ++ A :: B :: R))[T.length + 2]? = some B := by
  rw [show T.length + 2 = (T.length + 1) + 1 by omega, List.getElem?_cons_succ, List.getElem?_append_right (by omega)]
  simp
theorem set1 {X : Ob} : (o :: (T ++ A :: R)).set (T.length + 1) X = o :: (T ++ X :: R) := by simp
theorem set2 {X : Ob} : (o :: (T ++ A :: B :: R)).set (T.length + 2) X = o :: (T ++ A :: X :: R) := by
  rw [show T.length + 2 = (T.length + 1) + 1 by omega, List.set_cons_succ, List.set_append_right _ _ (by omega)]
  simp
end

theorem two (n : Nat) : n + 1 + 1 = n + 2 := rfl
theorem big_eq : big = 1000000 := rfl
theorem erase_map {α β : Type} (f : α → β) : ∀ (l : List α) (n : Nat), (l.map f).eraseIdx n = (l.eraseIdx n).map f
  | [], _ => rfl
  | _ :: _, 0 => rfl
  | x :: l, n + 1 => by
    show f x :: (l.map f).eraseIdx n = f x :: (l.eraseIdx n).map f
    rw [erase_map f l n]
theorem getD_map {α : Type} (f : α → D) {l : List α} {n : Nat} (h : n < l.length) : (l.map f).getD n .non = f l[n] := by
  rw [List.getD_eq_getElem?_getD, List.getElem?_map, List.getElem?_eq_getElem h]
  rfl
theorem perm_erase {α : Type} : ∀ {l : List α} {n : Nat} (h : n < l.length), (l[n] :: l.eraseIdx n).Perm l
  | x :: l, 0, _ => List.Perm.refl _
  | x :: l, n + 1, h => by
    have h' : n < l.length := by simpa using h
    have ih := perm_erase (l := l) (n := n) h'
    show (l[n] :: x :: l.eraseIdx n).Perm (x :: l)
    exact (List.Perm.swap x l[n] _).trans (ih.cons x)

/-! ### books -/
def NAMES : List Str := ["a", "aa", "b", "ba", "c", "k", "l", "o", "zz", "zzzzzzzz", "m", "ma", "bounds", "wishes", "must", "if", "wish", "open", "to", "qq"]
def okName (s : Str) : Prop := s ∈ NAMES
theorem name_ok : ∀ s ∈ NAMES, PyData.strOk s = true := by decide +kernel
structure Wsh where
  k : Str
  ws : List Int
  must : Bool
  needs : Option (Str × Int)
def worthsD (ws : List Int) : D := .tup (ws.map .int)
def needsD : Option (Str × Int) → D
  | none => .non
  | some (a, b) => .tup [.str a, .int b]
def Wsh.d (w : Wsh) : D := .tup [.str w.k, worthsD w.ws, .bl w.must, needsD w.needs]
def boundD (b : Str × List Int) : D := .tup [.str b.1, worthsD b.2]
def bookD (W : List Wsh) (B : List (Str × List Int)) : D := .tup [.tup (W.map Wsh.d), .tup (B.map boundD)]
def okI (i : Int) : Prop := 0 ≤ i ∧ i ≤ 9999
def okWs (ws : List Int) : Prop := 1 ≤ ws.length ∧ ws.length ≤ 6 ∧ ws.Nodup ∧ ∀ i ∈ ws, okI i
def okNeeds (seen : List Str) : Option (Str × Int) → Prop
  | none => True
  | some (a, b) => a ∈ seen ∧ okName a ∧ okI b
def okW (w : Wsh) : Prop := okName w.k ∧ okWs w.ws
def okL : List Str → List Wsh → Prop
  | _, [] => True
  | seen, w :: r => w.k ∉ seen ∧ okNeeds seen w.needs ∧ okW w ∧ okL (seen ++ [w.k]) r
def okB (B : List (Str × List Int)) : Prop := (B.map (·.1)).Nodup ∧ B.length ≤ 8 ∧ ∀ b ∈ B, okName b.1 ∧ okWs b.2
def okBook (W : List Wsh) (B : List (Str × List Int)) : Prop := okL [] W ∧ W.length ≤ 6 ∧ okB B
theorem sh_worths {k : Nat} (ws : List Int) : shD (k + 1) (worthsD ws) = true := shDs_ints k ws
theorem sh_needs {k : Nat} {seen : List Str} {n : Option (Str × Int)} (h : okNeeds seen n) : shD (k + 1) (needsD n) = true := by
  cases n with
  | none => rfl
  | some p =>
    show (PyData.strOk p.1 && (true && true)) = true
    rw [name_ok _ h.2.1]
    rfl
theorem sh_wsh {k : Nat} {w : Wsh} {seen : List Str} (h : okName w.k) (h2 : okNeeds seen w.needs) : shD (k + 2) w.d = true := by
  show (PyData.strOk w.k && (shD (k + 1) (worthsD w.ws) && (true && (shD (k + 1) (needsD w.needs) && true)))) = true
  rw [name_ok _ h, sh_worths, sh_needs h2]
  rfl
theorem sh_bound {k : Nat} {b : Str × List Int} (h : okName b.1) : shD (k + 2) (boundD b) = true := by
  show (PyData.strOk b.1 && (shD (k + 1) (worthsD b.2) && true)) = true
  rw [name_ok _ h, sh_worths]
  rfl
theorem okL_mem {w : Wsh} : ∀ {W : List Wsh} {seen : List Str}, okL seen W → w ∈ W → okW w ∧ ∃ s, okNeeds s w.needs
  | x :: W, seen, h, hm => by
    rcases List.mem_cons.mp hm with e | e
    · subst e
      exact ⟨h.2.2.1, seen, h.2.1⟩
    · exact okL_mem h.2.2.2 e
theorem okL_snoc {w : Wsh} : ∀ {W : List Wsh} {seen : List Str}, okL seen W → w.k ∉ seen ++ W.map Wsh.k → okNeeds (seen ++ W.map Wsh.k) w.needs → okW w → okL seen (W ++ [w])
  | [], seen, _, h1, h2, h3 => by
    rw [List.map_nil, List.append_nil] at h1 h2
    exact ⟨h1, h2, h3, trivial⟩
  | x :: W, seen, h, h1, h2, h3 => by
    refine ⟨h.1, h.2.1, h.2.2.1, okL_snoc h.2.2.2 ?_ ?_ h3⟩
    · rw [List.append_assoc]
      exact h1
    · rw [List.append_assoc]
      exact h2
end Cw

set_option maxRecDepth 100000
set_option maxHeartbeats 2000000
set_option linter.all false
/-! Books as texts: what is written, how it is cut. -/
namespace Cw
open PySem PySem.Spec PyProof.Rows L2

def num (i : Int) : Str := Str.ofString (toString i)
def worthsT (ws : List Int) : Str := Txt.join "," (ws.map num)
def tailT : Option (Str × Int) → List Str
  | none => []
  | some (a, b) => ["if", a, num b]
def wordsT (w : Wsh) : List Str := w.k :: worthsT w.ws :: ((if w.must then [("must" : Str)] else []) ++ tailT w.needs)
def wishT (w : Wsh) : Str := Txt.join " " (wordsT w)
def boundT (b : Str × List Int) : Str := b.1 ++ " " ++ worthsT b.2
def linesT (W : List Wsh) (B : List (Str × List Int)) : List Str := "wishes" :: (W.map wishT ++ (("bounds" : Str) :: B.map boundT))
def endT (L : List Str) : Str := Txt.join "" (L.map fun l : Str => l ++ ("\n" : Str))
def bookT (W : List Wsh) (B : List (Str × List Int)) : Str := endT (linesT W B)

theorem tl_sp : TL.tl " " = [32] := by decide +kernel
theorem tl_cm : TL.tl "," = [44] := by decide +kernel
theorem tl_nl : TL.tl "\n" = [10] := by decide +kernel
theorem tl_em : TL.tl "" = [] := by decide +kernel
theorem num_tl {i : Int} (h : 0 ≤ i) : TL.tl (num i) = TL.numL i.toNat := by
  have e : ((i.toNat : Nat) : Int) = i := by omega
  have z := TL.tl_num i.toNat
  rw [e] at z
  exact z
theorem num_len {i : Int} (h : okI i) : (num i).length ≤ 4 := by
  obtain ⟨h1, h2⟩ := h
  rw [TL.len_tl, num_tl h1]
  exact TL.numL_len (by decide) (by omega)
theorem num_int {i : Int} (h : okI i) : PySem.intText? (num i) = some i := by
  obtain ⟨h1, h2⟩ := h
  have e : ((i.toNat : Nat) : Int) = i := by omega
  have l : (TL.numL i.toNat).length ≤ 4300 := Nat.le_trans (TL.numL_len (k := 4) (by decide) (by omega)) (by decide)
  have z := TL.int_num l
  rw [e] at z
  exact z
theorem num_digits {i : Int} (h : 0 ≤ i) : ∀ c ∈ TL.tl (num i), 48 ≤ c ∧ c ≤ 57 := fun c hc => by
  rw [num_tl h] at hc
  exact TL.numL_digits _ c hc
/-- the signs of a joined text -/
theorem joinL_mem {S : List Nat} {c : Nat} : ∀ {ps : List (List Nat)}, c ∈ TL.joinL S ps → c ∈ S ∨ ∃ p ∈ ps, c ∈ p
  | [], h => by cases h
  | [p], h => .inr ⟨p, List.mem_singleton.mpr rfl, h⟩
  | p :: q :: r, h => by
    have h' : c ∈ p ++ (S ++ TL.joinL S (q :: r)) := h
    rcases List.mem_append.mp h' with z | z
    · exact .inr ⟨p, List.mem_cons_self, z⟩
    · rcases List.mem_append.mp z with z | z
      · exact .inl z
      · rcases joinL_mem z with z | ⟨x, hx, z⟩
        · exact .inl z
        · exact .inr ⟨x, List.mem_cons_of_mem _ hx, z⟩
theorem join_mem {a : Str} {ys : List Str} {c : Nat} (h : c ∈ TL.tl (Txt.join a ys)) : c ∈ TL.tl a ∨ ∃ y ∈ ys, c ∈ TL.tl y := by
  rw [TL.join_eq, TL.tl_join] at h
  rcases joinL_mem h with z | ⟨p, hp, z⟩
  · exact .inl z
  · obtain ⟨y, hy, e⟩ := List.mem_map.mp hp
    exact .inr ⟨y, hy, by rw [e]; exact z⟩
theorem name_low : ∀ s ∈ NAMES, ∀ c ∈ TL.tl s, 97 ≤ c ∧ c ≤ 122 := by decide +kernel
theorem name_len : ∀ s ∈ NAMES, 1 ≤ s.length ∧ s.length ≤ 8 := by decide +kernel
theorem worths_mem {ws : List Int} (h : okWs ws) : ∀ c ∈ TL.tl (worthsT ws), c = 44 ∨ (48 ≤ c ∧ c ≤ 57) := fun c hc => by
  rcases join_mem hc with z | ⟨y, hy, z⟩
  · rw [tl_cm] at z
    exact .inl (List.mem_singleton.mp z)
  · obtain ⟨i, hi, e⟩ := List.mem_map.mp hy
    subst e
    exact .inr (num_digits (h.2.2.2 i hi).1 c z)
theorem worths_ne {ws : List Int} (h : okWs ws) : ws.map num ≠ [] := fun e => by
  have z := h.1
  rw [List.map_eq_nil_iff.mp e] at z
  cases z
theorem split_worths {ws : List Int} (h : okWs ws) : Txt.split (worthsT ws) "," = ws.map num :=
  TL.split_join (s := 44) (S := []) tl_cm (by decide +kernel) (worths_ne h) fun p hp hc => by
    obtain ⟨i, hi, e⟩ := List.mem_map.mp hp
    subst e
    have := num_digits (h.2.2.2 i hi).1 44 hc
    omega
/-- a wish's words hold no blank -/
theorem words_mem {w : Wsh} {seen : List Str} (h : okW w) (h2 : okNeeds seen w.needs) : ∀ y ∈ wordsT w, ∀ c ∈ TL.tl y, 44 ≤ c ∧ c ≤ 122 := fun y hy c hc => by
  unfold wordsT at hy
  rcases List.mem_cons.mp hy with e | hy
  · subst e
    have := name_low _ h.1 c hc
    omega
  · rcases List.mem_cons.mp hy with e | hy
    · subst e
      have := worths_mem h.2 c hc
      omega
    · rcases List.mem_append.mp hy with hy | hy
      · cases hm : w.must with
        | false =>
          rw [hm] at hy
          cases hy
        | true =>
          rw [hm] at hy
          have e : y = "must" := List.mem_singleton.mp hy
          subst e
          have := name_low "must" (by decide +kernel) c hc
          omega
      · cases hn : w.needs with
        | none =>
          rw [hn] at hy
          cases hy
        | some p =>
          rw [hn] at hy h2
          have hy' : y ∈ [("if" : Str), p.1, num p.2] := hy
          rcases List.mem_cons.mp hy' with e | hy'
          · subst e
            have := name_low "if" (by decide +kernel) c hc
            omega
          · rcases List.mem_cons.mp hy' with e | hy'
            · subst e
              have := name_low _ h2.2.1 c hc
              omega
            · rw [List.mem_singleton.mp hy'] at hc
              have := num_digits h2.2.2.1 c hc
              omega
theorem split_wish {w : Wsh} {seen : List Str} (h : okW w) (h2 : okNeeds seen w.needs) : Txt.split (wishT w) " " = wordsT w :=
  TL.split_join (s := 32) (S := []) tl_sp (by decide +kernel) (List.cons_ne_nil _ _) fun p hp hc => by
    have := words_mem h h2 p hp 32 hc
    omega
theorem bound_join (b : Str × List Int) : boundT b = Txt.join " " [b.1, worthsT b.2] := by
  rw [TL.join_eq]
  rfl
theorem split_bound {b : Str × List Int} (h : okName b.1) (h2 : okWs b.2) : Txt.split (boundT b) " " = [b.1, worthsT b.2] := by
  rw [bound_join]
  refine TL.split_join (s := 32) (S := []) tl_sp (by decide +kernel) (List.cons_ne_nil _ _) fun p hp hc => ?_
  rcases List.mem_cons.mp hp with e | hp
  · subst e
    have := name_low _ h 32 hc
    omega
  · rw [List.mem_singleton.mp hp] at hc
    have := worths_mem h2 32 hc
    omega
theorem wish_mem {w : Wsh} {seen : List Str} (h : okW w) (h2 : okNeeds seen w.needs) : ∀ c ∈ TL.tl (wishT w), 32 ≤ c ∧ c ≤ 122 := fun c hc => by
  rcases join_mem hc with z | ⟨y, hy, z⟩
  · rw [tl_sp] at z
    rw [List.mem_singleton.mp z]
    omega
  · have := words_mem h h2 y hy c z
    omega
theorem bound_mem {b : Str × List Int} (h : okName b.1) (h2 : okWs b.2) : ∀ c ∈ TL.tl (boundT b), 32 ≤ c ∧ c ≤ 122 := fun c hc => by
  unfold boundT at hc
  rw [TL.tl_append, TL.tl_append] at hc
  rcases List.mem_append.mp hc with z | z
  · rcases List.mem_append.mp z with z | z
    · have := name_low _ h c z
      omega
    · rw [tl_sp] at z
      rw [List.mem_singleton.mp z]
      omega
  · have := worths_mem h2 c z
    omega
theorem lines_mem {W : List Wsh} {B : List (Str × List Int)} (h : okBook W B) : ∀ y ∈ linesT W B, ∀ c ∈ TL.tl y, 32 ≤ c ∧ c ≤ 122 := fun y hy c hc => by
  rcases List.mem_cons.mp hy with e | hy
  · subst e
    have := name_low "wishes" (by decide +kernel) c hc
    omega
  · rcases List.mem_append.mp hy with hy | hy
    · obtain ⟨w, hw, e⟩ := List.mem_map.mp hy
      subst e
      obtain ⟨h1, s, h2⟩ := okL_mem h.1 hw
      exact wish_mem h1 h2 c hc
    · rcases List.mem_cons.mp hy with e | hy
      · subst e
        have := name_low "bounds" (by decide +kernel) c hc
        omega
      · obtain ⟨b, hb, e⟩ := List.mem_map.mp hy
        subst e
        have z := h.2.2.2.2 b hb
        exact bound_mem z.1 z.2 c hc
theorem end_tl : ∀ L : List Str, TL.tl (endT L) = TL.joinL [10] ((L ++ [("" : Str)]).map TL.tl)
  | [] => by
    show TL.tl (Txt.join "" []) = TL.tl ""
    decide +kernel
  | [x] => by
    unfold endT
    rw [TL.join_eq, TL.tl_join]
    show TL.tl (x ++ "\n") = TL.tl x ++ ([10] ++ TL.tl "")
    rw [TL.tl_append, tl_nl, tl_em]
    rfl
  | x :: y :: r => by
    have ih := end_tl (y :: r)
    unfold endT at ih ⊢
    rw [TL.join_eq, TL.tl_join, tl_em] at ih ⊢
    show TL.tl (x ++ "\n") ++ ([] ++ TL.joinL [] (((y :: r).map fun l : Str => l ++ ("\n" : Str)).map TL.tl)) = TL.tl x ++ ([10] ++ TL.joinL [10] (((y :: r) ++ [("" : Str)]).map TL.tl))
    rw [ih, TL.tl_append, tl_nl, List.append_assoc, List.nil_append]
theorem end_join (L : List Str) : endT L = Txt.join "\n" (L ++ [("" : Str)]) := TL.ext_tl (by rw [end_tl, TL.join_eq, TL.tl_join, tl_nl])
theorem split_book {W : List Wsh} {B : List (Str × List Int)} (h : okBook W B) : Txt.split (bookT W B) "\n" = linesT W B ++ [("" : Str)] := by
  unfold bookT
  rw [end_join]
  refine TL.split_join (s := 10) (S := []) tl_nl (by decide +kernel) (by simp) fun p hp hc => ?_
  rcases List.mem_append.mp hp with z | z
  · have := lines_mem h p z 10 hc
    omega
  · rw [List.mem_singleton.mp z, tl_em] at hc
    cases hc

/-! ### how long -/
theorem join_len {a : Str} {B : Nat} {ys : List Str} (h : ∀ y ∈ ys, y.length ≤ B) : (Txt.join a ys).length ≤ ys.length * B + ys.length * a.length := by
  have z := StrLaws.join_length_le a ys
  rw [← TL.join_eq] at z
  have q := StrLaws.sumLen_le ys h
  omega
theorem join_room {a : Str} {B : Nat} {ys : List Str} (h : ∀ y ∈ ys, y.length ≤ B) : (ys.map (·.length)).sum + ys.length * a.length ≤ ys.length * B + ys.length * a.length := by
  have q := StrLaws.sumLen_le ys h
  omega
theorem len_sp : (" " : Str).length = 1 := by decide +kernel
theorem len_cm : ("," : Str).length = 1 := by decide +kernel
theorem len_nl : ("\n" : Str).length = 1 := by decide +kernel
theorem worths_len {ws : List Int} (h : okWs ws) : (worthsT ws).length ≤ 30 := by
  have z := join_len (a := ",") (B := 4) (ys := ws.map num) fun y hy => by
    obtain ⟨i, hi, e⟩ := List.mem_map.mp hy
    subst e
    exact num_len (h.2.2.2 i hi)
  rw [List.length_map, len_cm] at z
  have := h.2.1
  show (Txt.join "," (ws.map num)).length ≤ 30
  omega
theorem words_len {w : Wsh} {seen : List Str} (h : okW w) (h2 : okNeeds seen w.needs) : (wordsT w).length ≤ 6 ∧ ∀ y ∈ wordsT w, y.length ≤ 30 := by
  refine ⟨?_, fun y hy => ?_⟩
  · unfold wordsT
    rw [List.length_cons, List.length_cons, List.length_append]
    have a : (if w.must = true then [("must" : Str)] else []).length ≤ 1 := by split <;> decide
    have b : (tailT w.needs).length ≤ 3 := by
      cases w.needs with
      | none => decide
      | some p => exact Nat.le_refl _
    omega
  · rcases List.mem_cons.mp hy with e | hy
    · subst e
      have := name_len _ h.1
      omega
    · rcases List.mem_cons.mp hy with e | hy
      · subst e
        exact worths_len h.2
      · rcases List.mem_append.mp hy with hy | hy
        · cases hm : w.must with
          | false =>
            rw [hm] at hy
            cases hy
          | true =>
            rw [hm] at hy
            have e : y = "must" := List.mem_singleton.mp hy
            subst e
            decide +kernel
        · cases hn : w.needs with
          | none =>
            rw [hn] at hy
            cases hy
          | some p =>
            rw [hn] at hy h2
            have hy' : y ∈ [("if" : Str), p.1, num p.2] := hy
            rcases List.mem_cons.mp hy' with e | hy'
            · subst e
              decide +kernel
            · rcases List.mem_cons.mp hy' with e | hy'
              · subst e
                have := name_len _ h2.2.1
                omega
              · rw [List.mem_singleton.mp hy']
                have := num_len h2.2.2
                omega
theorem wish_len {w : Wsh} {seen : List Str} (h : okW w) (h2 : okNeeds seen w.needs) : (wishT w).length ≤ 200 := by
  obtain ⟨h3, h4⟩ := words_len h h2
  have z := join_len (a := " ") h4
  rw [len_sp] at z
  show (Txt.join " " (wordsT w)).length ≤ 200
  omega
theorem bound_len {b : Str × List Int} (h : okName b.1) (h2 : okWs b.2) : (boundT b).length ≤ 200 := by
  have e : (boundT b).length = b.1.length + 1 + (worthsT b.2).length := by
    show (b.1 ++ " " ++ worthsT b.2).length = _
    rw [Str.length_append, Str.length_append, len_sp]
  have := name_len _ h
  have := worths_len h2
  omega
theorem lines_len {W : List Wsh} {B : List (Str × List Int)} (h : okBook W B) : (linesT W B).length ≤ 16 ∧ ∀ y ∈ linesT W B, y.length ≤ 200 := by
  refine ⟨?_, fun y hy => ?_⟩
  · show (("wishes" : Str) :: (W.map wishT ++ (("bounds" : Str) :: B.map boundT)) : List Str).length ≤ 16
    rw [List.length_cons, List.length_append, List.length_cons, List.length_map, List.length_map]
    have := h.2.1
    have := h.2.2.2.1
    omega
  · rcases List.mem_cons.mp hy with e | hy
    · subst e
      decide +kernel
    · rcases List.mem_append.mp hy with hy | hy
      · obtain ⟨w, hw, e⟩ := List.mem_map.mp hy
        subst e
        obtain ⟨h1, s, h2⟩ := okL_mem h.1 hw
        exact wish_len h1 h2
      · rcases List.mem_cons.mp hy with e | hy
        · subst e
          decide +kernel
        · obtain ⟨b, hb, e⟩ := List.mem_map.mp hy
          subst e
          have z := h.2.2.2.2 b hb
          exact bound_len z.1 z.2
theorem book_len {W : List Wsh} {B : List (Str × List Int)} (h : okBook W B) : (bookT W B).length ≤ 5000 := by
  obtain ⟨h1, h2⟩ := lines_len h
  have z := join_len (a := "") (B := 201) (ys := (linesT W B).map fun l : Str => l ++ ("\n" : Str)) fun y hy => by
    obtain ⟨l, hl, e⟩ := List.mem_map.mp hy
    subst e
    rw [Str.length_append, len_nl]
    have := h2 l hl
    omega
  rw [List.length_map, show ("" : Str).length = 0 by decide +kernel] at z
  show (Txt.join "" ((linesT W B).map fun l : Str => l ++ ("\n" : Str))).length ≤ 5000
  omega
end Cw

set_option maxRecDepth 100000
set_option maxHeartbeats 2000000
set_option linter.all false
/-! What the laws about texts share, with no program in sight. -/
namespace Cw
open PySem PySem.Spec PyProof.Rows L2
theorem txs_map : ∀ ys : List Str, txs (ys.map .str) = some ys
  | [] => rfl
  | y :: ys => by
    show (txs (ys.map .str)).map (y :: ·) = _
    rw [txs_map ys]
    rfl
theorem join_ok {a : Str} {ys : List Str} {S : Sto} (h : (ys.map (·.length)).sum + ys.length * a.length ≤ 16777216) : joinV (.str a) [.lst (ys.map .str)] S = some (.str (Txt.join a ys), S) := by
  show (match txs (ys.map .str) with
      | some ys => if (ys.map fun y : Str => y.length).sum + ys.length * a.length ≤ 16777216 then some (D.str (Txt.join a ys), S) else none
      | none => none) = _
  rw [txs_map]
  exact if_pos h
theorem join_ref {a : Str} {ys : List Str} {S : Sto} {n : Nat} (hn : S[n]? = some (.lst (ys.map .str))) (h : (ys.map (·.length)).sum + ys.length * a.length ≤ 16777216) : joinV (.str a) [.ref n] S = some (.str (Txt.join a ys), S) := by
  unfold joinV items
  simp only [hn]
  rw [txs_map]
  exact if_pos h
theorem ty_str (s : Str) (S : Sto) : tyD S "str" (.str s) = true := by
  show ("str" == "str") = true
  decide
theorem iadd_ref {S : Sto} {n : Nat} {ds es : List D} (h : S[n]? = some (.lst ds)) (hl : ds.length + es.length ≤ big) : iaddV (.ref n) (.lst es) S = some (.ref n, S.set n (.lst (ds ++ es))) := by
  simp only [iaddV, own_ref h, lstOf]
  exact if_pos hl
theorem add_ss {a b : Str} {S : Sto} (h : a.length + b.length ≤ big) : addV (.str a) (.str b) S = some (.str (a ++ b), S) := if_pos h
@[simp] theorem z_chn {δ : Env} {S : Sto} {A B C : DE} {g h : D → D → Sto → Option (D × Sto)} : dChn g h A B C δ S = bnd (A δ S) fun x S1 => bnd (B δ S1) fun y S2 => bnd (upS (g x y S2)) fun z S3 => match z with
  | .bl true => bnd (C δ S3) fun x2 S4 => upS (h y x2 S4)
  | .bl false => some (.ok (.bl false) S3)
  | _ => none := rfl
theorem kit1 : kitB "tuple" "tuple" = some true := by decide +kernel
theorem kit2 : kitB "str" "str" = some true := by decide +kernel
theorem kit3 : kitB "int" "int" = some true := by decide +kernel
theorem kit4 : kitB "int" "bool" = some false := by decide +kernel
theorem kit5 : kitB "bool" "bool" = some true := by decide +kernel
theorem isi_tup (ds : List D) (S : Sto) : isiV (.tup ds) (.ty "tuple") S = some (.bl true, S) := by
  simp [isiV, tyName, kit1]
theorem isi_str (s : Str) (S : Sto) : isiV (.str s) (.ty "str") S = some (.bl true, S) := by
  simp [isiV, tyName, kit2]
theorem isi_int (s : Int) (S : Sto) : isiV (.int s) (.ty "int") S = some (.bl true, S) := by
  simp [isiV, tyName, kit3]
theorem isi_intb (s : Int) (S : Sto) : isiV (.int s) (.ty "bool") S = some (.bl false, S) := by
  simp [isiV, tyName, kit4]
theorem isi_bool (s : Bool) (S : Sto) : isiV (.bl s) (.ty "bool") S = some (.bl true, S) := by
  simp [isiV, tyName, kit5]
theorem len_s {s : Str} (h : s.length ≤ big) (S : Sto) : len1 (.str s) S = some (.int s.length, S) := if_pos h
theorem bls_true {α : Type} (l : List α) : bls (l.map fun _ => D.bl true) = some (l.map fun _ => true) := by
  induction l with
  | nil => rfl
  | cons x l ih =>
    show (bls (l.map fun _ => D.bl true)).map (true :: ·) = _
    rw [ih]
    rfl
theorem all_true {α : Type} (l : List α) (S : Sto) : all1 (.lst (l.map fun _ => D.bl true)) S = some (.bl true, S) := by
  unfold all1
  show (bls (l.map fun _ => D.bl true)).map _ = _
  rw [bls_true]
  show some (D.bl ((l.map fun _ => true).all id), S) = _
  rw [List.all_map]
  simp
theorem sgn_in {c : Nat} {z : Str} (h : c ∈ TL.tl z) (S : Sto) : inV' (sgn c) (.str z) S = some (.bl true, S) := by
  show (inB S (sgn c) (.str z)).map _ = _
  have e : inB S (sgn c) (.str z) = some (decide (c ∈ z.cps.toList)) := rfl
  rw [e, decide_eq_true h]
  rfl
theorem in_strs {s : Str} {S : Sto} {n : Nat} {ks : List Str} (h : S[n]? = some (.lst (ks.map .str))) : inV' (.str s) (.ref n) S = some (.bl (decide (s ∈ ks)), S) := by
  have e : inB S (.str s) (.ref n) = some (inF (.str s) (ks.map .str)) := by
    have hf : flatD (.str s) = true ∧ (ks.map D.str).all flatD = true := ⟨rfl, by
      rw [List.all_map]
      exact List.all_eq_true.mpr fun x _ => rfl⟩
    unfold inB dicOf items
    simp only [h]
    exact if_pos hf
  have f : inF (.str s) (ks.map .str) = decide (s ∈ ks) := by
    unfold inF
    rw [List.any_map]
    rw [Bool.eq_iff_iff, List.any_eq_true, decide_eq_true_iff]
    constructor
    · rintro ⟨x, hx, e⟩
      have e' : (x == s) = true := e
      rw [← eq_of_beq e']
      exact hx
    · intro hm
      exact ⟨s, hm, by show (s == s) = true; exact beq_self_eq_true s⟩
  show (inB S (.str s) (.ref n)).map _ = _
  rw [e, f]
  rfl
theorem notIn_strs {s : Str} {S : Sto} {n : Nat} {ks : List Str} (h : S[n]? = some (.lst (ks.map .str))) : notInV' (.str s) (.ref n) S = some (.bl (!decide (s ∈ ks)), S) := by
  have z := in_strs (s := s) h
  unfold inV' at z
  unfold notInV'
  cases q : inB S (.str s) (.ref n) with
  | none => rw [q] at z; cases z
  | some b =>
    rw [q] at z
    have e : b = decide (s ∈ ks) := by simpa using z
    rw [e]
    rfl
theorem sk_at {vs : List Nat} {G : DG} {A : DE} {d : D} {ds : List D} {δ δ1 : Env} {S : Sto} {acc : List Key} {key : Key} {y : D} (h : G d (wipeD δ vs) S = some δ1) (h2 : A δ1 S = some (.ok y S)) (h3 : kOf y = some key) (h4 : acc.length < 4000) : skD vs G tYesD A (d :: ds) δ S acc = skD vs G tYesD A ds δ S (if hasK acc key = true then acc else acc ++ [key]) := by
  show (match G d (wipeD δ vs) S with
    | none => none
    | some δ1 => bndL (tYesD δ1 S) fun b S1 => if b = true then bndL (A δ1 S1) fun y S2 => match kOf y with
        | some key => if acc.length < 4000 then skD vs G tYesD A ds δ S2 (if hasK acc key = true then acc else acc ++ [key]) else none
        | none => none
      else skD vs G tYesD A ds δ S1 acc) = _
  rw [h]
  show bndL (A δ1 S) _ = _
  rw [h2, bndL_ok, h3]
  exact if_pos h4
theorem digits_in : ∀ c : Nat, 48 ≤ c → c ≤ 57 → c ∈ TL.tl "0123456789" := fun c h1 h2 => by
  rw [show TL.tl "0123456789" = [48, 49, 50, 51, 52, 53, 54, 55, 56, 57] by decide +kernel]
  simp
  omega
theorem numL_head : ∀ n : Nat, 0 < n → ∃ c r, TL.numL n = c :: r ∧ c ≠ 48 := fun n => by
  induction n using Nat.strongRecOn with
  | _ n ih =>
    intro h
    by_cases h10 : n < 10
    · exact ⟨48 + n, [], TL.numL_lt h10, by omega⟩
    · obtain ⟨c, r, e, hc⟩ := ih (n / 10) (by omega) (by omega)
      exact ⟨c, r ++ [48 + n % 10], by rw [TL.numL_step (by omega), e]; rfl, hc⟩
theorem ix_str0 {s : Str} {c : Nat} {r : List Nat} (h : TL.tl s = c :: r) (hl : s.length ≤ big) (S : Sto) : ixV (.str s) (.int 0) S = some (.str ⟨#[c]⟩, S) := by
  show (if s.length ≤ big then (L2.atI s.cps.toList 0).map (fun c => (D.str ⟨#[c]⟩, S)) else none) = _
  rw [if_pos hl]
  have h' : s.cps.toList = c :: r := h
  have e : L2.atI (c :: r) 0 = some c := by
    unfold L2.atI
    rw [ixN_nat (by decide) (by simp)]
    rfl
  rw [h', e]
  rfl
theorem zero_tl : TL.tl "0" = [48] := by decide +kernel
theorem split_ok {a b : Str} (h : (b.length == 0) = false) (h2 : a.length + 2 ≤ big) (S : Sto) : splitV (.str a) [.str b] S = some (.lst ((Txt.split a b).map .str), S) := if_pos ⟨h, h2⟩
theorem cut_from {ds : List D} {n : Nat} (h : n ≤ ds.length) : cutD ds (some (n : Int)) none = ds.drop n := by
  unfold cutD
  have e : HT.sIx ds.length 0 (some (n : Int)) = n := by
    rw [HT.sIx_nat]
    exact Nat.min_eq_left h
  rw [e, HT.sIx_none, List.take_of_length_le (by rw [List.length_drop]; omega)]
theorem cut_to {ds : List D} {n : Nat} : cutD ds none (some (n : Int)) = ds.take n := by
  unfold cutD
  rw [HT.sIx_none, HT.sIx_nat, List.drop_zero, Nat.sub_zero]
  by_cases h : n ≤ ds.length
  · rw [Nat.min_eq_left h]
  · rw [Nat.min_eq_right (by omega), List.take_length, List.take_of_length_le (by omega)]
theorem star1 (d : D) (ds : List D) : cutStar 2 1 (d :: ds) = [d, .lst ds] := by
  unfold cutStar
  simp
theorem star0 (d : D) (ds : List D) : cutStar 2 0 (ds ++ [d]) = [.lst ds, d] := by
  unfold cutStar
  simp
theorem strOk_of {s : Str} (h : ∀ c ∈ TL.tl s, c ≤ 122) : PyData.strOk s = true := by
  show s.cps.all (· < 0x110000) = true
  rw [← Array.all_toList]
  exact List.all_eq_true.mpr fun c hc => decide_eq_true (by have := h c hc; omega)
theorem pys_strs : ∀ a : List Str, pys (a.map .str) = some (a.map PyData.str)
  | [] => rfl
  | x :: a => by
    show (match py (.str x), pys (a.map .str) with | some x, some xs => some (x :: xs) | _, _ => none) = _
    rw [pys_strs a]
    rfl
theorem eqv_strs : ∀ a b : List Str, PyData.eqvAll (a.map PyData.str) (b.map PyData.str) = decide (a = b)
  | [], [] => rfl
  | [], _ :: _ => by rw [decide_eq_false (by simp)]; rfl
  | _ :: _, [] => by rw [decide_eq_false (by simp)]; rfl
  | x :: a, y :: b => by
    have ih := eqv_strs a b
    show (PyData.eqv (.str x) (.str y) && PyData.eqvAll (a.map PyData.str) (b.map PyData.str)) = _
    rw [ih]
    show ((x == y) && decide (a = b)) = _
    by_cases h1 : x = y
    · by_cases h2 : a = b
      · rw [h1, h2]; simp
      · rw [decide_eq_false h2, decide_eq_false (fun e => h2 (List.cons.inj e).2), Bool.and_false]
    · rw [decide_eq_false (fun e => h1 (List.cons.inj e).1)]
      have : (x == y) = false := by simpa using h1
      rw [this, Bool.false_and]
theorem shaped_strs {a : List Str} (h : ∀ s ∈ a, PyData.strOk s = true) : SeqAt.shaped (.list (a.map PyData.str)) = true := by
  obtain ⟨xs, h1, h2, h3⟩ := shDs_py (k := 0) (ds := a.map D.str) (shDs_map h)
  rw [pys_strs] at h1
  cases h1
  unfold SeqAt.shaped
  rw [Bool.and_eq_true]
  refine ⟨h2, decide_eq_true ?_⟩
  show PyData.depthAll (a.map PyData.str) + 1 ≤ 64
  omega
theorem eq_strs {a b : List Str} (ha : ∀ s ∈ a, PyData.strOk s = true) (hb : ∀ s ∈ b, PyData.strOk s = true) (S : Sto) : eqV' (.lst (a.map .str)) (.lst (b.map .str)) S = some (.bl (decide (a = b)), S) := by
  have e : eqvV S (.lst (a.map .str)) (.lst (b.map .str)) = (if SeqAt.shaped (.list (a.map PyData.str)) = true ∧ SeqAt.shaped (.list (b.map PyData.str)) = true then some (PyData.eqv (.list (a.map PyData.str)) (.list (b.map PyData.str))) else none) := by
    have p1 : pyS S (.lst (a.map .str)) = some (.list (a.map PyData.str)) := by
      show (pys (a.map .str)).map PyData.list = _
      rw [pys_strs]
      rfl
    have p2 : pyS S (.lst (b.map .str)) = some (.list (b.map PyData.str)) := by
      show (pys (b.map .str)).map PyData.list = _
      rw [pys_strs]
      rfl
    unfold eqvV
    rw [show eqs (.lst (a.map .str)) (.lst (b.map .str)) = none from rfl, p1, p2]
  show (eqvV S (.lst (a.map .str)) (.lst (b.map .str))).map _ = _
  rw [e, if_pos ⟨shaped_strs ha, shaped_strs hb⟩]
  show some (D.bl (PyData.eqvAll (a.map PyData.str) (b.map PyData.str)), S) = _
  rw [eqv_strs]
/-! ### the pen, at any place of the store -/
section
variable {S : Sto} {cs : List Int} {a l b : Int} {p : Nat}
theorem ixp_cells (h : S[p]? = some (pen cs a l)) : ixV (.ref p) (.str "cells") S = some (.lst (cs.map .int), S) := by
  unfold ixV dicOf
  simp only [h, pen]
  rfl
theorem ixp_at (h : S[p]? = some (pen cs a l)) : ixV (.ref p) (.str "at") S = some (.int a, S) := by
  unfold ixV dicOf
  simp only [h, pen]
  rfl
theorem ixp_left (h : S[p]? = some (pen cs a l)) : ixV (.ref p) (.str "left") S = some (.int l, S) := by
  unfold ixV dicOf
  simp only [h, pen]
  rfl
theorem setp_at (h : S[p]? = some (pen cs a l)) : setV (.ref p) (.str "at") (.int b) S = some (S.set p (pen cs b l)) := by
  unfold setV
  simp only [h, pen]
  rfl
theorem setp_left (h : S[p]? = some (pen cs a l)) : setV (.ref p) (.str "left") (.int b) S = some (S.set p (pen cs a b)) := by
  unfold setV
  simp only [h, pen]
  rfl
theorem atp_set (h : S[p]? = some (pen cs a l)) (o : Ob) : (S.set p o)[p]? = some o := by
  have : p < S.length := (List.getElem?_eq_some_iff.mp h).1
  rw [List.getElem?_set_self this]
end
/-- the cut where a table and the pen stand ahead -/
theorem cut_t {F : Fn} {ds : List D} {tb o o' : Ob} {T X : Sto} {v : D} (h : F ds (tb :: o :: T) = some (.ok v (tb :: o' :: (T ++ X)))) (hv : lowD (T.length + 2) v = true) (ho : lowO (T.length + 2) o' = true) : cutF F ds (tb :: o :: T) = some (.ok v (tb :: o' :: T)) := by
  have k : Keeps (tb :: o :: T) (tb :: o' :: (T ++ X)) := by
    refine ⟨by simp, fun j oj hj e => ?_⟩
    match j, hj, e with
    | 0, _, e => exact .inl e
    | 1, _, e =>
      right
      have : o' = oj := by simpa using e
      rw [← this]
      exact ho
    | j + 2, hj, e =>
      left
      have hj' : j < T.length := by simpa using hj
      rw [List.getElem?_cons_succ, List.getElem?_cons_succ, List.getElem?_append_left hj'] at e
      rw [List.getElem?_cons_succ, List.getElem?_cons_succ]
      exact e
  unfold cutF
  rw [h]
  show (match outD (T.length + 2) (tb :: o' :: (T ++ X)) v with
    | some d' => if Keeps (tb :: o :: T) (tb :: o' :: (T ++ X)) then some (Out.ok d' ((tb :: o' :: (T ++ X)).take (T.length + 2))) else none
    | none => none) = _
  unfold outD
  rw [if_pos hv]
  show (if Keeps (tb :: o :: T) (tb :: o' :: (T ++ X)) then some (Out.ok v ((tb :: o' :: (T ++ X)).take (T.length + 2))) else none) = _
  rw [if_pos k]
  simp
section
variable {tb o A : Ob} {T R : Sto}
theorem tat1 : (tb :: o :: (T ++ A :: R))[T.length + 2]? = some A := by simp
theorem tset1 {X : Ob} : (tb :: o :: (T ++ A :: R)).set (T.length + 2) X = tb :: o :: (T ++ X :: R) := by simp
end

/-! ### comprehensions with a test -/
theorem lc_flt {T : DT} {A : DE} {vs : List Nat} {G : DG} {δ : Env} {S : Sto} {b : D → Bool} {f : D → D} : ∀ {ds acc : List D}, (∀ d ∈ ds, ∃ δ1, G d (wipeD δ vs) S = some δ1 ∧ T δ1 S = some (.ok (b d) S) ∧ A δ1 S = some (.ok (f d) S)) → acc.length + ds.length ≤ big → lcD vs G T A ds δ S acc = some (.ok (acc ++ (ds.filter b).map f) S)
  | [], acc, _, _ => by rw [lc_end, List.filter_nil, List.map_nil, List.append_nil]
  | d :: ds, acc, h, hl => by
    obtain ⟨δ1, h1, h2, h3⟩ := h d List.mem_cons_self
    rw [List.length_cons] at hl
    have ih := fun acc hl => lc_flt (T := T) (A := A) (vs := vs) (G := G) (δ := δ) (S := S) (b := b) (f := f) (ds := ds) (acc := acc) (fun x hx => h x (List.mem_cons_of_mem _ hx)) hl
    show (match G d (wipeD δ vs) S with
      | none => none
      | some δ1 => bndL (T δ1 S) fun b S1 => if b = true then bndL (A δ1 S1) fun y S2 => if acc.length < big then lcD vs G T A ds δ S2 (acc ++ [y]) else none
        else lcD vs G T A ds δ S1 acc) = _
    rw [h1]
    show bndL (T δ1 S) _ = _
    rw [h2, bndL_ok]
    cases hb : b d with
    | false =>
      rw [if_neg Bool.false_ne_true, ih acc (by omega), List.filter_cons_of_neg (by rw [hb]; exact Bool.false_ne_true)]
    | true =>
      rw [if_pos rfl, h3, bndL_ok, if_pos (by omega), ih _ (by rw [List.length_append, List.length_singleton]; omega), List.filter_cons_of_pos hb, List.map_cons, List.append_assoc]
      rfl
theorem bls_map {α : Type} (p : α → Bool) (l : List α) : bls (l.map fun x => D.bl (p x)) = some (l.map p) := by
  induction l with
  | nil => rfl
  | cons x l ih =>
    show (bls (l.map fun x => D.bl (p x))).map (p x :: ·) = _
    rw [ih]
    rfl
theorem all_map {α : Type} (p : α → Bool) (l : List α) (S : Sto) : all1 (.lst (l.map fun x => D.bl (p x))) S = some (.bl (l.all p), S) := by
  unfold all1
  show (bls (l.map fun x => D.bl (p x))).map _ = _
  rw [bls_map]
  show some (D.bl ((l.map p).all id), S) = _
  rw [List.all_map]
  rfl
theorem eq_nil {x : D} {ds : List D} {S : Sto} (hx : lstOf S x = some ds) (h : shDs 60 ds = true) : eqV' x (.lst []) S = some (.bl (decide (ds = [])), S) := by
  have z := ne_nil hx h
  unfold neV' at z
  unfold eqV'
  cases e : eqvV S x (.lst []) with
  | none => rw [e] at z; cases z
  | some b =>
    rw [e] at z
    have z2 : (!b) = (!decide (ds = [])) := by simpa using z
    have z3 : b = decide (ds = []) := by
      have := congrArg (!·) z2
      simpa using this
    rw [z3]
    rfl

/-! ### texts -/
/-- a text of so many plain signs at most -/
def okT (n : Nat) (t : Str) : Prop := t.length ≤ n ∧ ∀ c ∈ TL.tl t, c < 128
theorem okT.mono {n m : Nat} {t : Str} (h : okT n t) (k : n ≤ m) : okT m t := ⟨Nat.le_trans h.1 k, h.2⟩
theorem okT.app {n m : Nat} {s t : Str} (h : okT n s) (k : okT m t) : okT (n + m) (s ++ t) := by
  refine ⟨by rw [Str.length_append]; exact Nat.add_le_add h.1 k.1, fun c hc => ?_⟩
  rw [TL.tl_append] at hc
  rcases List.mem_append.mp hc with z | z
  · exact h.2 c z
  · exact k.2 c z
theorem okT.strOk {n : Nat} {t : Str} (h : okT n t) : PyData.strOk t = true := by
  show t.cps.all (· < 0x110000) = true
  rw [← Array.all_toList]
  exact List.all_eq_true.mpr fun c hc => decide_eq_true (by have := h.2 c hc; omega)
theorem cutS_mem {t : Str} {lo hi : Option Int} {c : Nat} (h : c ∈ TL.tl (cutS t lo hi)) : c ∈ TL.tl t := by
  have e : TL.tl (cutS t lo hi) = (TL.tl t |>.drop (HT.sIx t.length 0 lo)).take (HT.sIx t.length t.length hi - HT.sIx t.length 0 lo) := by
    rfl
  rw [e] at h
  exact List.mem_of_mem_drop (List.mem_of_mem_take h)
theorem okT.cut {n : Nat} {t : Str} (h : okT n t) (lo hi : Option Int) : okT n (cutS t lo hi) := ⟨Nat.le_trans (cutS_length t lo hi) h.1, fun c hc => h.2 c (cutS_mem hc)⟩
theorem pre1 (s c : Nat) (r : List Nat) : TL.pre [s] (c :: r) = (c == s) := by
  show ((c :: r).take 1 == [s]) = _
  show ([c] == [s]) = _
  by_cases h : c = s
  · subst h; simp
  · have : (c == s) = false := by simpa using h
    rw [this]
    simpa using h
def wtL (l : List (List Nat)) : Nat := (l.map fun w => w.length + 1).sum
theorem spl_facts (s : Nat) : ∀ (l acc : List Nat), TL.spl [s] 0 acc l ≠ [] ∧ wtL (TL.spl [s] 0 acc l) = acc.length + l.length + 1 ∧ (∀ w ∈ TL.spl [s] 0 acc l, ∀ c ∈ w, c ∈ acc ∨ c ∈ l)
  | [], acc => by
    rw [TL.spl_nil]
    refine ⟨List.cons_ne_nil _ _, by unfold wtL; simp, fun w hw c hc => ?_⟩
    rw [List.mem_singleton.mp hw] at hc
    exact .inl hc
  | d :: l, acc => by
    by_cases h : d = s
    · rw [TL.spl_hit (by rw [pre1]; simpa using h)]
      obtain ⟨h1, h2, h3⟩ := spl_facts s l []
      have e : ([s] : List Nat).length - 1 = 0 := rfl
      rw [e]
      refine ⟨List.cons_ne_nil _ _, ?_, fun w hw c hc => ?_⟩
      · have e2 : wtL (acc :: TL.spl [s] 0 [] l) = acc.length + 1 + wtL (TL.spl [s] 0 [] l) := by unfold wtL; simp
        rw [e2, h2]
        simp only [List.length_nil, List.length_cons]
        omega
      · rcases List.mem_cons.mp hw with q | q
        · subst q
          exact .inl hc
        · rcases h3 w q c hc with z | z
          · cases z
          · exact .inr (List.mem_cons_of_mem _ z)
    · rw [TL.spl_miss (by rw [pre1]; simpa using h)]
      obtain ⟨h1, h2, h3⟩ := spl_facts s l (acc ++ [d])
      refine ⟨h1, ?_, fun w hw c hc => ?_⟩
      · rw [h2]
        simp only [List.length_append, List.length_cons, List.length_nil]
        omega
      · rcases h3 w hw c hc with z | z
        · rcases List.mem_append.mp z with z | z
          · exact .inl z
          · rw [List.mem_singleton.mp z]
            exact .inr List.mem_cons_self
        · exact .inr (List.mem_cons_of_mem _ z)
/-- what so many texts weigh, a sign between -/
def wt (l : List Str) : Nat := (l.map fun w => w.length + 1).sum
theorem wt_app (a b : List Str) : wt (a ++ b) = wt a + wt b := by unfold wt; simp
theorem wt_cons (x : Str) (b : List Str) : wt (x :: b) = x.length + 1 + wt b := by unfold wt; simp
theorem wt_nil : wt [] = 0 := rfl
theorem wt_tl (l : List Str) : wt l = wtL (l.map TL.tl) := by
  unfold wt wtL
  rw [List.map_map]
  congr 1
theorem split_facts {t sep : Str} {s : Nat} (e : TL.tl sep = [s]) (hs : s < 128) : Txt.split t sep ≠ [] ∧ wt (Txt.split t sep) = t.length + 1 ∧ (∀ w ∈ Txt.split t sep, ∀ c ∈ TL.tl w, c ∈ TL.tl t) := by
  have hk : sep.cps.all (· < 256) = true := by
    rw [← Array.all_toList]
    refine List.all_eq_true.mpr fun c hc => decide_eq_true ?_
    have hc' : c ∈ TL.tl sep := hc
    rw [e] at hc'
    rw [List.mem_singleton.mp hc']
    omega
  have z := TL.split_spl t sep (by rw [e]; exact List.cons_ne_nil _ _) (TL.kind_ok hk)
  rw [e] at z
  obtain ⟨h1, h2, h3⟩ := spl_facts s (TL.tl t) []
  rw [← z] at h1 h2 h3
  refine ⟨fun q => h1 (by rw [q]; rfl), ?_, fun w hw c hc => ?_⟩
  · rw [wt_tl, h2, TL.len_tl]
    simp
  · rcases h3 _ (List.mem_map.mpr ⟨w, hw, rfl⟩) c hc with q | q
    · cases q
    · exact q
theorem wt_mem {l : List Str} {w : Str} (h : w ∈ l) : w.length + 1 ≤ wt l := by
  induction l with
  | nil => cases h
  | cons x l ih =>
    rw [wt_cons]
    rcases List.mem_cons.mp h with e | e
    · subst e
      omega
    · have := ih e
      omega
theorem wt_len (l : List Str) : l.length ≤ wt l := by
  induction l with
  | nil => exact Nat.zero_le _
  | cons x l ih => rw [wt_cons, List.length_cons]; omega
theorem wt_sub {a b : List Str} (h : a.Sublist b) : wt a ≤ wt b := by
  induction h with
  | slnil => exact Nat.le_refl _
  | cons x _ ih => rw [wt_cons]; omega
  | cons_cons x _ ih => rw [wt_cons, wt_cons]; omega
theorem wt_set {l : List Str} {x : Str} : ∀ {i : Nat}, wt (l.set i x) ≤ wt l + (x.length + 1) := by
  induction l with
  | nil => intro i; simp [wt]
  | cons y l ih =>
    intro i
    cases i with
    | zero => rw [List.set_cons_zero, wt_cons, wt_cons]; omega
    | succ i =>
      have := ih (i := i)
      rw [List.set_cons_succ, wt_cons, wt_cons]
      omega
theorem sep_sp : TL.tl " " = [32] := tl_sp
theorem sep_nl : TL.tl "\n" = [10] := tl_nl
theorem sep_eq : TL.tl "=" = [61] := by decide +kernel
theorem okT.split {n s : Nat} {t sep w : Str} (h : okT n t) (e : TL.tl sep = [s]) (hs : s < 128) (hw : w ∈ Txt.split t sep) : okT n w := by
  obtain ⟨_, h2, h3⟩ := split_facts (t := t) e hs
  have := wt_mem hw
  have := h.1
  exact ⟨by omega, fun c hc => h.2 c (h3 w hw c hc)⟩
theorem joinL_len {s : Nat} : ∀ l : List (List Nat), (TL.joinL [s] l).length ≤ wtL l
  | [] => Nat.zero_le _
  | [p] => by
    show p.length ≤ _
    unfold wtL
    simp
  | p :: q :: r => by
    have ih := joinL_len (s := s) (q :: r)
    show (p ++ ([s] ++ TL.joinL [s] (q :: r))).length ≤ _
    have e : wtL (p :: q :: r) = p.length + 1 + wtL (q :: r) := by unfold wtL; simp
    rw [e, List.length_append, List.length_append, List.length_singleton]
    omega
theorem join_wt {sep : Str} {s : Nat} (e : TL.tl sep = [s]) (l : List Str) : (Txt.join sep l).length ≤ wt l := by
  rw [TL.len_tl, TL.join_eq, TL.tl_join, e, wt_tl]
  exact joinL_len _
theorem okT.join {n s : Nat} {sep : Str} {l : List Str} (e : TL.tl sep = [s]) (hs : s < 128) (h : wt l ≤ n) (hm : ∀ w ∈ l, ∀ c ∈ TL.tl w, c < 128) : okT n (Txt.join sep l) := by
  refine ⟨Nat.le_trans (join_wt e l) h, fun c hc => ?_⟩
  rcases join_mem hc with z | ⟨y, hy, z⟩
  · rw [e] at z
    rw [List.mem_singleton.mp z]
    exact hs
  · exact hm y hy c z
theorem wt_sum (l : List Str) : (l.map (·.length)).sum + l.length = wt l := by
  induction l with
  | nil => rfl
  | cons x l ih =>
    rw [wt_cons, List.map_cons, List.sum_cons, List.length_cons]
    omega
theorem join_wok {sep : Str} {s : Nat} {l : List Str} {S : Sto} (e : TL.tl sep = [s]) (h : wt l ≤ 16777216) : joinV (.str sep) [.lst (l.map .str)] S = some (.str (Txt.join sep l), S) := by
  refine join_ok ?_
  have e1 : sep.length = 1 := by rw [TL.len_tl, e]; rfl
  rw [e1, Nat.mul_one, wt_sum]
  exact h
theorem joinR_wok {sep : Str} {s : Nat} {l : List Str} {S : Sto} {n : Nat} (hn : S[n]? = some (.lst (l.map .str))) (e : TL.tl sep = [s]) (h : wt l ≤ 16777216) : joinV (.str sep) [.ref n] S = some (.str (Txt.join sep l), S) := by
  refine join_ref hn ?_
  have e1 : sep.length = 1 := by rw [TL.len_tl, e]; rfl
  rw [e1, Nat.mul_one, wt_sum]
  exact h
/-- the signs of a text that are among those of another -/
def among (z : Str) (c : Nat) : Bool := decide (c ∈ TL.tl z)
theorem sgn_inB {c : Nat} {z : Str} (S : Sto) : inV' (sgn c) (.str z) S = some (.bl (among z c), S) := by
  show (inB S (sgn c) (.str z)).map _ = _
  have e : inB S (sgn c) (.str z) = some (decide (c ∈ z.cps.toList)) := rfl
  rw [e]
  rfl
theorem sgn_notInB {c : Nat} {z : Str} (S : Sto) : notInV' (sgn c) (.str z) S = some (.bl (!among z c), S) := by
  show (inB S (sgn c) (.str z)).map _ = _
  have e : inB S (sgn c) (.str z) = some (decide (c ∈ z.cps.toList)) := rfl
  rw [e]
  rfl
theorem sgn_ok {n c : Nat} {t : Str} (h : okT n t) (hc : c ∈ TL.tl t) : shD 60 (sgn c) = true := by
  show (#[c] : Array Nat).all (· < 0x110000) = true
  have := h.2 c hc
  simp
  omega
theorem inF_strs (s : Str) (ks : List Str) : inF (.str s) (ks.map .str) = decide (s ∈ ks) := by
  unfold inF
  rw [List.any_map]
  rw [Bool.eq_iff_iff, List.any_eq_true, decide_eq_true_iff]
  constructor
  · rintro ⟨x, hx, e⟩
    have e' : (x == s) = true := e
    rw [← eq_of_beq e']
    exact hx
  · intro hm
    exact ⟨s, hm, by show (s == s) = true; exact beq_self_eq_true s⟩
theorem in_tupS {s : Str} {ks : List Str} {S : Sto} : inV' (.str s) (.tup (ks.map .str)) S = some (.bl (decide (s ∈ ks)), S) := by
  have hf : flatD (.str s) = true ∧ (ks.map D.str).all flatD = true := ⟨rfl, by
    rw [List.all_map]
    exact List.all_eq_true.mpr fun x _ => rfl⟩
  have e : inB S (.str s) (.tup (ks.map .str)) = some (inF (.str s) (ks.map .str)) := by
    show (if flatD (.str s) = true ∧ (ks.map D.str).all flatD = true then some (inF (.str s) (ks.map .str)) else inDeep S (.str s) (ks.map .str)) = _
    exact if_pos hf
  show (inB S (.str s) (.tup (ks.map .str))).map _ = _
  rw [e, inF_strs]
  rfl
theorem notIn_tupS {s : Str} {ks : List Str} {S : Sto} : notInV' (.str s) (.tup (ks.map .str)) S = some (.bl (!decide (s ∈ ks)), S) := by
  have z := in_tupS (s := s) (ks := ks) (S := S)
  unfold inV' at z
  unfold notInV'
  cases q : inB S (.str s) (.tup (ks.map .str)) with
  | none => rw [q] at z; cases z
  | some b =>
    rw [q] at z
    have e : b = decide (s ∈ ks) := by simpa using z
    rw [e]
    rfl
/-- is_name -/
def isNm (s : Str) : Bool := decide (1 ≤ s.length ∧ s.length ≤ 8) && (TL.tl s).all (among "abcdefghijklmnopqrstuvwxyz")
/-- the number that a word writes -/
def numV (s : Str) : Option Int := if (1 ≤ s.length ∧ s.length ≤ 10) ∧ (TL.tl s).all (among "0123456789") = true ∧ (s = "0" ∨ (TL.tl s).head? ≠ some 48) then some (NumText.digitsVal (TL.tl s)) else none
def optD : Option Int → D
  | none => .non
  | some i => .int i
theorem numV_nonneg {s : Str} {i : Int} (h : numV s = some i) : 0 ≤ i := by
  unfold numV at h
  split at h
  · cases h
    exact Int.natCast_nonneg _
  · cases h
theorem digs_of {s : Str} (h : (TL.tl s).all (among "0123456789") = true) : ∀ c ∈ TL.tl s, 48 ≤ c ∧ c ≤ 57 := fun c hc => by
  have z := of_decide_eq_true (List.all_eq_true.mp h c hc)
  rw [show TL.tl "0123456789" = [48, 49, 50, 51, 52, 53, 54, 55, 56, 57] by decide +kernel] at z
  simp at z
  omega
theorem int_digs {s : Str} (h1 : 1 ≤ s.length) (h2 : s.length ≤ 10) (h : (TL.tl s).all (among "0123456789") = true) (S : Sto) : int1 (.str s) S = some (.int (NumText.digitsVal (TL.tl s)), S) := by
  show (if s.length ≤ 640 then (PySem.intText? s).map (fun n => (D.int n, S)) else none) = _
  have hne : s.cps.toList ≠ [] := fun e => by
    have : (TL.tl s).length = 0 := by show s.cps.toList.length = 0; rw [e]; rfl
    rw [TL.len_tl] at h1
    omega
  rw [if_pos (by omega), PySem.intText_digits (x := s) (digs_of h) hne (by omega)]
  rfl
theorem one_ne_zero {c : Nat} : ((⟨#[c]⟩ : Str) = "0") ↔ c = 48 := by
  constructor
  · intro h
    have q2 := congrArg TL.tl h
    rw [zero_tl] at q2
    have q3 : [c] = [48] := q2
    exact (List.cons.inj q3).1
  · intro h
    subst h
    exact TL.ext_tl (by rw [zero_tl])
end Cw

set_option maxRecDepth 100000
set_option maxHeartbeats 2000000
set_option linter.all false
/-! What is shown of data. -/
namespace Cw
open PySem PySem.Spec PyProof.Rows L2
structure Shw (k b : Nat) (x : PyData) : Prop where
  sh : x.showable = true
  dp : x.depth ≤ k
  nd : x.hasDict = false
  ln : x.shown.length ≤ b
def PyShw (k b : Nat) (d : D) : Prop := ∃ x, py d = some x ∧ Shw k b x
theorem PyShw.mono {k j b c : Nat} {d : D} (h : PyShw k b d) (h1 : k ≤ j) (h2 : b ≤ c) : PyShw j c d := by
  obtain ⟨x, e, s⟩ := h
  exact ⟨x, e, s.sh, Nat.le_trans s.dp h1, s.nd, Nat.le_trans s.ln h2⟩
theorem len_shown {k b : Nat} : ∀ {xs : List PyData}, (∀ x ∈ xs, Shw k b x) → ((PyData.shownAll xs).map (·.length)).sum ≤ xs.length * b ∧ (PyData.shownAll xs).length = xs.length ∧ PyData.showableAll xs = true ∧ PyData.depthAll xs ≤ k ∧ PyData.hasDictAll xs = false
  | [], _ => ⟨Nat.zero_le _, rfl, rfl, Nat.zero_le _, rfl⟩
  | x :: xs, h => by
    have hx := h x List.mem_cons_self
    obtain ⟨a1, a2, a3, a4, a5⟩ := len_shown (xs := xs) fun y hy => h y (List.mem_cons_of_mem _ hy)
    have e : PyData.shownAll (x :: xs) = x.shown :: PyData.shownAll xs := by simp only [PyData.shownAll]
    rw [e]
    refine ⟨?_, by rw [List.length_cons, List.length_cons, a2], ?_, ?_, ?_⟩
    · rw [List.map_cons, List.sum_cons, List.length_cons, Nat.succ_mul]
      have := hx.ln
      omega
    · simp only [PyData.showableAll, hx.sh, a3, Bool.and_self]
    · simp only [PyData.depthAll]
      exact Nat.max_le.mpr ⟨hx.dp, a4⟩
    · simp only [PyData.hasDictAll, hx.nd, a5, Bool.or_self]
theorem tupleText_len (ts : List Str) : (tupleText ts).length ≤ 3 + (ts.map (·.length)).sum + ts.length * 2 := by
  have z := StrLaws.join_length_le ", " ts
  have l2 : (", " : Str).length = 2 := by decide +kernel
  rw [l2] at z
  have e : (tupleText ts).length = ("(" : Str).length + (Str.join ", " ts).length + ((if ts.length == 1 then ",)" else ")" : String) : Str).length := by
    show ((("(" : Str) ++ Str.join ", " ts) ++ ((if ts.length == 1 then ",)" else ")" : String) : Str)).length = _
    rw [Str.length_append, Str.length_append]
  have h1 : ("(" : Str).length = 1 := by decide +kernel
  have h2 : ((if ts.length == 1 then ",)" else ")" : String) : Str).length ≤ 2 := by split <;> decide +kernel
  omega
theorem pys_shw {k b : Nat} : ∀ {ds : List D}, (∀ d ∈ ds, PyShw k b d) → ∃ xs, pys ds = some xs ∧ xs.length = ds.length ∧ ∀ x ∈ xs, Shw k b x
  | [], _ => ⟨[], rfl, rfl, fun _ h => nomatch h⟩
  | d :: ds, h => by
    obtain ⟨x, e1, s⟩ := h d List.mem_cons_self
    obtain ⟨xs, e2, l, hs⟩ := pys_shw (ds := ds) fun y hy => h y (List.mem_cons_of_mem _ hy)
    refine ⟨x :: xs, ?_, by rw [List.length_cons, List.length_cons, l], fun y hy => ?_⟩
    · show (match py d, pys ds with | some x, some xs => some (x :: xs) | _, _ => none) = _
      rw [e1, e2]
    · rcases List.mem_cons.mp hy with e | hy
      · rw [e]
        exact s
      · exact hs y hy
theorem shw_tup {k b : Nat} {ds : List D} (h : ∀ d ∈ ds, PyShw k b d) : PyShw (k + 1) (3 + ds.length * b + ds.length * 2) (.tup ds) := by
  obtain ⟨xs, e, l, hs⟩ := pys_shw h
  obtain ⟨a1, a2, a3, a4, a5⟩ := len_shown hs
  refine ⟨.tuple xs, by show (pys ds).map PyData.tuple = _; rw [e]; rfl, ?_, ?_, ?_, ?_⟩
  · simp only [PyData.showable]
    exact a3
  · simp only [PyData.depth]
    omega
  · simp only [PyData.hasDict]
    exact a5
  · simp only [PyData.shown]
    have z := tupleText_len (PyData.shownAll xs)
    rw [a2, l] at z
    rw [l] at a1
    omega
theorem textFrom_le : ∀ (ts : List Str) (k : Nat) (acc : Str), (textFrom k acc ts).length ≤ acc.length + ((ts.map (·.length)).sum + ts.length * 2)
  | [], k, acc => by
    show acc.length ≤ _
    omega
  | t :: r, k, acc => by
    have ih := textFrom_le r (k + 1) (acc ++ (if k > 0 then ", " else "" : String) ++ t)
    show (textFrom (k + 1) (acc ++ (if k > 0 then ", " else "" : String) ++ t) r).length ≤ _
    rw [Str.length_append, Str.length_append] at ih
    have h2 : ((if k > 0 then ", " else "" : String) : Str).length ≤ 2 := by split <;> decide +kernel
    rw [List.map_cons, List.sum_cons, List.length_cons]
    omega
theorem listText_len (ts : List Str) : (listText ts).length ≤ 3 + (ts.map (·.length)).sum + ts.length * 2 := by
  have z := textFrom_le ts 0 "["
  have h1 : ("[" : Str).length = 1 := by decide +kernel
  have h2 : ("]" : Str).length = 1 := by decide +kernel
  show (textFrom 0 "[" ts ++ "]").length ≤ _
  rw [Str.length_append]
  omega
theorem shw_lst {k b : Nat} {ds : List D} (h : ∀ d ∈ ds, PyShw k b d) : PyShw (k + 1) (3 + ds.length * b + ds.length * 2) (.lst ds) := by
  obtain ⟨xs, e, l, hs⟩ := pys_shw h
  obtain ⟨a1, a2, a3, a4, a5⟩ := len_shown hs
  refine ⟨.list xs, by show (pys ds).map PyData.list = _; rw [e]; rfl, ?_, ?_, ?_, ?_⟩
  · simp only [PyData.showable]
    exact a3
  · simp only [PyData.depth]
    omega
  · simp only [PyData.hasDict]
    exact a5
  · simp only [PyData.shown]
    have z := listText_len (PyData.shownAll xs)
    rw [a2, l] at z
    rw [l] at a1
    omega
def okN (i : Int) : Prop := 0 ≤ i ∧ i ≤ 9999999999
theorem okN_log {i : Int} (h : okN i) : i.natAbs.log2 < 1920 := by
  have h1 : i.natAbs < 2 ^ 1920 := by
    have h1 := h.1
    have h2 := h.2
    have : i.natAbs ≤ 9999999999 := by omega
    exact Nat.lt_of_le_of_lt this (by decide +kernel)
  by_cases hz : i.natAbs = 0
  · rw [hz]
    decide
  · exact (Nat.log2_lt hz).mpr h1
theorem numN_len {i : Int} (h : okN i) : (num i).length ≤ 10 := by
  obtain ⟨h1, h2⟩ := h
  rw [TL.len_tl, num_tl h1]
  exact TL.numL_len (by decide) (by omega)
theorem shw_int {i : Int} (h : okN i) : PyShw 0 12 (.int i) := by
  refine ⟨.int i, rfl, ?_, Nat.zero_le _, rfl, ?_⟩
  · simp only [PyData.showable]
    exact decide_eq_true (okN_log h)
  · simp only [PyData.shown]
    have := numN_len h
    show (num i).length ≤ 12
    omega
theorem reprChar_le (q : Nat) (hq : q = 34 ∨ q = 39) : ∀ c, c < 128 → (Builtin.Str.reprChar q c).length ≤ 4 := by
  have key : ∀ c ∈ List.range 128, (Builtin.Str.reprChar 34 c).length ≤ 4 ∧ (Builtin.Str.reprChar 39 c).length ≤ 4 := by decide +kernel
  intro c hc
  have z := key c (List.mem_range.mpr hc)
  rcases hq with e | e <;> subst e
  · exact z.1
  · exact z.2
theorem reprQ (x : Str) : reprQuote x = 34 ∨ reprQuote x = 39 := by
  unfold reprQuote
  split
  · exact .inl rfl
  · exact .inr rfl
theorem reprText_le {n : Nat} {s : Str} (h : okT n s) : (reprText s).length ≤ 2 + 4 * n := by
  rw [← reprLen_eq, ← Array.foldl_toList]
  have key : ∀ (l : List Nat) (a : Nat), (∀ c ∈ l, c < 128) → l.foldl (fun n c => n + (Builtin.Str.reprChar (reprQuote s) c).length) a ≤ a + 4 * l.length := by
    intro l
    induction l with
    | nil => intro a _; simp
    | cons c l ih =>
      intro a hc
      have z := ih (a + (Builtin.Str.reprChar (reprQuote s) c).length) fun d hd => hc d (List.mem_cons_of_mem _ hd)
      have q := reprChar_le _ (reprQ s) c (hc c List.mem_cons_self)
      rw [List.foldl_cons, List.length_cons]
      omega
  have z := key s.cps.toList 2 h.2
  have l : s.cps.toList.length = s.length := Array.length_toList
  have := h.1
  rw [l] at z
  omega
theorem shw_str {n : Nat} {s : Str} (h : okT n s) : PyShw 0 (2 + 4 * n) (.str s) := ⟨.str s, rfl, rfl, Nat.zero_le _, rfl, by
  simp only [PyData.shown]
  exact reprText_le h⟩
theorem shw_bl (b : Bool) : PyShw 0 12 (.bl b) := ⟨.bool b, rfl, rfl, Nat.zero_le _, rfl, by cases b <;> decide +kernel⟩
theorem shw_non : PyShw 0 12 .non := ⟨.none, rfl, rfl, Nat.zero_le _, rfl, by decide +kernel⟩
theorem reprT {k b : Nat} {ds : List D} (h : PyShw k b (.tup ds)) (hk : k ≤ 60) (hb : b ≤ 1000000) : ∃ r : Str, ∀ S, reprV (.tup ds) S = some (.str r, S) := by
  obtain ⟨x, e, s⟩ := h
  refine ⟨x.shown, fun S => ?_⟩
  show (match py (.tup ds) with
    | some d => if fitsR d then some (D.str d.shown, S) else none
    | none => none) = _
  rw [e]
  exact if_pos ⟨s.sh, Nat.le_trans s.dp hk, s.nd, Nat.le_trans s.ln hb⟩
theorem reprL {k b : Nat} {ds : List D} (h : PyShw k b (.lst ds)) (hk : k ≤ 60) (hb : b ≤ 1000000) : ∃ r : Str, ∀ S, reprV (.lst ds) S = some (.str r, S) := by
  obtain ⟨x, e, s⟩ := h
  refine ⟨x.shown, fun S => ?_⟩
  show (match py (.lst ds) with
    | some d => if fitsR d then some (D.str d.shown, S) else none
    | none => none) = _
  rw [e]
  exact if_pos ⟨s.sh, Nat.le_trans s.dp hk, s.nd, Nat.le_trans s.ln hb⟩
theorem digs_lt : ∀ (cs : List Nat) (a : Nat), (∀ c ∈ cs, 48 ≤ c ∧ c ≤ 57) → cs.foldl (fun acc c => acc * 10 + (c - 48)) a < (a + 1) * 10 ^ cs.length
  | [], a, _ => by simp
  | c :: cs, a, h => by
    have z := digs_lt cs (a * 10 + (c - 48)) fun d hd => h d (List.mem_cons_of_mem _ hd)
    have hc := h c List.mem_cons_self
    rw [List.foldl_cons, List.length_cons, Nat.pow_succ]
    refine Nat.lt_of_lt_of_le z ?_
    have : a * 10 + (c - 48) + 1 ≤ (a + 1) * 10 := by omega
    calc (a * 10 + (c - 48) + 1) * 10 ^ cs.length ≤ ((a + 1) * 10) * 10 ^ cs.length := Nat.mul_le_mul_right _ this
      _ = (a + 1) * (10 ^ cs.length * 10) := by rw [Nat.mul_assoc, Nat.mul_comm 10]
theorem numV_okN {s : Str} {i : Int} (h : numV s = some i) : okN i := by
  have h0 := numV_nonneg h
  unfold numV at h
  split at h
  · rename_i hc
    cases h
    refine ⟨h0, ?_⟩
    have z := digs_lt (TL.tl s) 0 (digs_of hc.2.1)
    have l : (TL.tl s).length ≤ 10 := by
      have := hc.1.2
      rw [TL.len_tl] at this
      exact this
    have p : 10 ^ (TL.tl s).length ≤ 10 ^ 10 := Nat.pow_le_pow_right (by decide) l
    have e : NumText.digitsVal (TL.tl s) < 10 ^ 10 := by
      show (TL.tl s).foldl (fun acc c => acc * 10 + (c - 48)) 0 < _
      omega
    omega
  · cases h
end Cw

set_option maxRecDepth 100000
set_option maxHeartbeats 2000000
set_option linter.all false
namespace Cw
open PySem PySem.Spec PyProof.Rows L2
def top (i : Nat) : Stmt := PySem.Challenge.pw_crossedwishes_k79_texts_of_no_letter.main.body.getD i (.Pass ⟨0, 0, 0, 0⟩)
section
variable {P : Program} {w : World} {K : PySem.W.Frag} {mg : Str → Option Value} {base : Heap} {f : Addr} {fd : FuncData}
noncomputable def d__law_pen : DS := sRet (dDic ((dC (.str "cells"), dCB (g1 list1) (aCons (dSl (dVar 0) none (some (dC (.int 63)))) (aNil))) :: (dC (.str "at"), dC (.int 0)) :: (dC (.str "left"), dC (.int 0)) :: []))
noncomputable def F__law_pen : Fn := body 1 d__law_pen
theorem z__law_pen : FnScope ["_law_script"] ["_law_script"] (defScope (top 35)) := ⟨rfl, rfl, rfl, by decide +kernel, rfl, by decide +kernel, by decide +kernel⟩
theorem g__law_pen (D : FunD K "_law_pen" "_law_pen" (defArgs (top 35)) (defBody (top 35)) (defScope (top 35)) [] [] f fd) (q_list : mg "list" = none) : GnOk P w K mg base 1 f fd ["_law_script"] F__law_pen := gn_of D z__law_pen fun cdv B outer st G E hg hr => by
  have R : Rdy (cxOf (L2.CX P w) P w K mg base ["_law_script"] "_law_pen" (defScope (top 35)) f cdv B outer st G E) (fun c d _ H => E c d H) 0 := ⟨takes_of rfl rfl rfl rfl, hg, hr⟩
  exact bv_one (sv_ret (ev_dic (pv_cons (ev_str) (evG_cty b_list q_list bt_list (av_cons (ev_sl (ev_var (i := 0)) ov_none (ov_some (ev_int))) (av_nil))) (pv_cons (ev_str) (ev_int) (pv_cons (ev_str) (ev_int) (pv_nil))))))
noncomputable def d_show_letter : DS := sSeq (sAsg (dVar 0) (gSeq 6 (gsCons (gNm 1) (gsCons (gNm 2) (gsCons (gNm 3) (gsCons (gNm 4) (gsCons (gNm 5) (gsCons (gNm 6) (gsNil))))))))) (sRet (dMt "str" joinV (dC (.str " ")) (aCons (dOp addV (dLst (aCons (dVar 1) (aCons (dVar 2) (aCons (dCB (g1 str1) (aCons (dVar 3) (aNil))) (aCons (dCB (g1 str1) (aCons (dVar 4) (aNil))) (aCons (dCB (g1 str1) (aCons (dVar 5) (aNil))) (aNil))))))) (dLc (iSeq (dVar 6)) [7, 8] (gSeq 2 (gsCons (gNm 7) (gsCons (gNm 8) (gsNil)))) (tYesD) (dJs ((dFmt (dVar 7)) :: (dC (.str "=")) :: (dFmt (dVar 8)) :: []) Str.empty))) (aNil))))
noncomputable def F_show_letter : Fn := body 9 d_show_letter
theorem z_show_letter : FnScope ["letter", "who", "word", "mine", "yours", "number", "pairs", "kind", "worth"] ["letter"] (defScope (top 33)) := ⟨rfl, rfl, rfl, by decide +kernel, rfl, by decide +kernel, by decide +kernel⟩
theorem g_show_letter (D : FunD K "show_letter" "show_letter" (defArgs (top 33)) (defBody (top 33)) (defScope (top 33)) [] [] f fd) (q_str : mg "str" = none) : GnOk P w K mg base 1 f fd ["letter"] F_show_letter := gn_of D z_show_letter fun cdv B outer st G E hg hr => by
  have R : Rdy (cxOf (L2.CX P w) P w K mg base ["letter", "who", "word", "mine", "yours", "number", "pairs", "kind", "worth"] "show_letter" (defScope (top 33)) f cdv B outer st G E) (fun c d _ H => E c d H) 0 := ⟨takes_of rfl rfl rfl rfl, hg, hr⟩
  exact bv_cons (sv_asg (ev_var (i := 0)) (gv_seq (n := 6) rfl (gsv_cons (gv_name (i := 1) z_show_letter.nd) (gsv_cons (gv_name (i := 2) z_show_letter.nd) (gsv_cons (gv_name (i := 3) z_show_letter.nd) (gsv_cons (gv_name (i := 4) z_show_letter.nd) (gsv_cons (gv_name (i := 5) z_show_letter.nd) (gsv_cons (gv_name (i := 6) z_show_letter.nd) (gsv_nil))))))))) (bv_one (sv_ret (ev_join (ev_str) (av_cons (ev_add (ev_lst (av_cons (ev_var (i := 1)) (av_cons (ev_var (i := 2)) (av_cons (evG_cty b_str q_str bt_str (av_cons (ev_var (i := 3)) (av_nil))) (av_cons (evG_cty b_str q_str bt_str (av_cons (ev_var (i := 4)) (av_nil))) (av_cons (evG_cty b_str q_str bt_str (av_cons (ev_var (i := 5)) (av_nil))) (av_nil))))))) (ev_lc (own := [("kind", 7), ("worth", 8)]) rfl z_show_letter.nd (iv_seq (ev_var (i := 6))) (blkOk_by (N := ["letter", "who", "word", "mine", "yours", "number", "pairs", "kind", "worth"]) (sc := defScope (top 33)) (by decide +kernel)) (fun s H C cl fp => gv_seq (n := 2) rfl (gsv_cons (gv_name (i := 7) z_show_letter.nd) (gsv_cons (gv_name (i := 8) z_show_letter.nd) (gsv_nil)))) (fun s H C cl fp => tsv_nil) (fun s H C cl fp => ev_joined (jv_cons (ev_fmt (ev_var (i := 7))) (jv_cons (ev_str) (jv_cons (ev_fmt (ev_var (i := 8))) (jv_nil))))))) (av_nil)))))
noncomputable def d__law_draw : DS := sSeq (sIf (asT (dOp gtV (dOp ixV (dVar 0) (dC (.str "left"))) (dC (.int 0)))) (sSeq (sAsg (dOp modV (dOp ixV (dVar 0) (dC (.str "left"))) (dVar 1)) (gNm 2)) (sSeq (sSub (dOp divV (dOp ixV (dVar 0) (dC (.str "left"))) (dVar 1)) (dVar 0) (dC (.str "left"))) (sRet (dVar 2)))) (sNext)) (sSeq (sAsg (dOp ixV (dVar 0) (dC (.str "at"))) (gNm 3)) (sSeq (sSub (dOp addV (dVar 3) (dC (.int 1))) (dVar 0) (dC (.str "at"))) (sSeq (sAsg (dOp addV (dOp mulV (dC (.int 1951)) (dVar 3)) (dC (.int 701))) (gNm 4)) (sSeq (sIf (asT (dOp neV' (dOp ixV (dVar 0) (dC (.str "cells"))) (dLst (aNil)))) (sAsg (dOp ixV (dOp ixV (dVar 0) (dC (.str "cells"))) (dOp modV (dVar 3) (dCB (g1 len1) (aCons (dOp ixV (dVar 0) (dC (.str "cells"))) (aNil))))) (gNm 4)) (sNext)) (sSeq (sIf (tAndD (asT (dOp ltV (dVar 3) (dCB (g1 len1) (aCons (dOp ixV (dVar 0) (dC (.str "cells"))) (aNil))))) (asT (dOp geV (dCB (g1 abs1) (aCons (dVar 4) (aNil))) (dOp powV (dC (.int 10)) (dC (.int 18)))))) (sSeq (sAsg (dOp addV (dOp mulV (dC (.int 2)) (dCB (g1 abs1) (aCons (dVar 4) (aNil)))) (dCB (g1 int1) (aCons (dOp ltV (dVar 4) (dC (.int 0))) (aNil)))) (gNm 5)) (sSeq (sSub (dOp divV (dVar 5) (dVar 1)) (dVar 0) (dC (.str "left"))) (sRet (dOp modV (dVar 5) (dVar 1))))) (sNext)) (sSeq (sAsg (dOp modV (dOp powV (dOp addV (dOp addV (dOp modV (dVar 4) (dC (.int 2147483563))) (dOp mulV (dC (.int 70997)) (dVar 3))) (dC (.int 79))) (dC (.int 5))) (dC (.int 2147483647))) (gNm 6)) (sSeq (sAsg (dOp modV (dOp powV (dOp addV (dOp mulV (dVar 6) (dOp addV (dVar 3) (dC (.int 65539)))) (dOp mulV (dOp mulV (dC (.int 85009)) (dVar 3)) (dVar 3))) (dC (.int 3))) (dC (.int 2147483399))) (gNm 7)) (sRet (dOp modV (dOp divV (dVar 7) (dC (.int 32))) (dVar 1))))))))))
noncomputable def F__law_draw : Fn := body 8 d__law_draw
theorem z__law_draw : FnScope ["_law_pen_here", "_law_many", "_law_found", "_law_at", "_law_cell", "_law_whole", "_law_one", "_law_two"] ["_law_pen_here", "_law_many"] (defScope (top 36)) := ⟨rfl, rfl, rfl, by decide +kernel, rfl, by decide +kernel, by decide +kernel⟩
theorem g__law_draw (D : FunD K "_law_draw" "_law_draw" (defArgs (top 36)) (defBody (top 36)) (defScope (top 36)) [] [] f fd) (q_len : mg "len" = none) (q_abs : mg "abs" = none) (q_int : mg "int" = none) : GnOk P w K mg base 1 f fd ["_law_pen_here", "_law_many"] F__law_draw := gn_of D z__law_draw fun cdv B outer st G E hg hr => by
  have R : Rdy (cxOf (L2.CX P w) P w K mg base ["_law_pen_here", "_law_many", "_law_found", "_law_at", "_law_cell", "_law_whole", "_law_one", "_law_two"] "_law_draw" (defScope (top 36)) f cdv B outer st G E) (fun c d _ H => E c d H) 0 := ⟨takes_of rfl rfl rfl rfl, hg, hr⟩
  exact bv_cons (sv_if (tv_c (c_gt R) (ev_ix R (ev_var (i := 0)) (ev_str)) (ev_int)) (bv_cons (sv_set (i := 2) (ev_mod (ev_ix R (ev_var (i := 0)) (ev_str)) (ev_var (i := 1))) z__law_draw.nd) (bv_cons (sv_sub R (ev_div (ev_ix R (ev_var (i := 0)) (ev_str)) (ev_var (i := 1))) (ev_var (i := 0)) (ev_str)) (bv_one (sv_ret (ev_var (i := 2)))))) (bv_nil)) (bv_cons (sv_set (i := 3) (ev_ix R (ev_var (i := 0)) (ev_str)) z__law_draw.nd) (bv_cons (sv_sub R (ev_add (ev_var (i := 3)) (ev_int)) (ev_var (i := 0)) (ev_str)) (bv_cons (sv_set (i := 4) (ev_add (ev_mul (ev_int) (ev_var (i := 3))) (ev_int)) z__law_draw.nd) (bv_cons (sv_if (tv_c (c_ne R) (ev_ix R (ev_var (i := 0)) (ev_str)) (ev_lst (av_nil))) (bv_one (sv_set (i := 4) (ev_ix R (ev_ix R (ev_var (i := 0)) (ev_str)) (ev_mod (ev_var (i := 3)) (evG_cb b_len q_len bf_len (av_cons (ev_ix R (ev_var (i := 0)) (ev_str)) (av_nil))))) z__law_draw.nd)) (bv_nil)) (bv_cons (sv_if ((wv_and (tv_c (c_lt R) (ev_var (i := 3)) (evG_cb b_len q_len bf_len (av_cons (ev_ix R (ev_var (i := 0)) (ev_str)) (av_nil)))) (wv_and1 (tv_c (c_ge R) (evG_cb b_abs q_abs bf_abs (av_cons (ev_var (i := 4)) (av_nil))) (ev_pow (ev_int) (ev_int))))).tv) (bv_cons (sv_set (i := 5) (ev_add (ev_mul (ev_int) (evG_cb b_abs q_abs bf_abs (av_cons (ev_var (i := 4)) (av_nil)))) (evG_cty b_int q_int bt_int (av_cons (ev_c (c_lt R) (ev_var (i := 4)) (ev_int)) (av_nil)))) z__law_draw.nd) (bv_cons (sv_sub R (ev_div (ev_var (i := 5)) (ev_var (i := 1))) (ev_var (i := 0)) (ev_str)) (bv_one (sv_ret (ev_mod (ev_var (i := 5)) (ev_var (i := 1))))))) (bv_nil)) (bv_cons (sv_set (i := 6) (ev_mod (ev_pow (ev_add (ev_add (ev_mod (ev_var (i := 4)) (ev_int)) (ev_mul (ev_int) (ev_var (i := 3)))) (ev_int)) (ev_int)) (ev_int)) z__law_draw.nd) (bv_cons (sv_set (i := 7) (ev_mod (ev_pow (ev_add (ev_mul (ev_var (i := 6)) (ev_add (ev_var (i := 3)) (ev_int))) (ev_mul (ev_mul (ev_int) (ev_var (i := 3))) (ev_var (i := 3)))) (ev_int)) (ev_int)) z__law_draw.nd) (bv_one (sv_ret (ev_mod (ev_div (ev_var (i := 7)) (ev_int)) (ev_var (i := 1))))))))))))
noncomputable def d__law_number : DS := sSeq (sAsg (dLst (aCons (dC (.int 1)) (aCons (dC (.int 2)) (aCons (dC (.int 9)) (aCons (dC (.int 10)) (aCons (dC (.int 99)) (aCons (dC (.int 100)) (aCons (dC (.int 9999999999)) (aCons (dOp powV (dC (.int 10)) (dC (.int 9))) (aCons (dCall F__law_draw 2 [] (aCons (dVar 0) (aCons (dC (.int 12)) (aNil)))) (aCons (dCall F__law_draw 2 [] (aCons (dVar 0) (aCons (dOp powV (dC (.int 10)) (dC (.int 7))) (aNil)))) (aNil)))))))))))) (gNm 1)) (sRet (dOp ixV (dVar 1) (dCall F__law_draw 2 [] (aCons (dVar 0) (aCons (dC (.int 10)) (aNil))))))
noncomputable def F__law_number : Fn := body 2 d__law_number
theorem z__law_number : FnScope ["_law_pen_here", "_law_some"] ["_law_pen_here"] (defScope (top 38)) := ⟨rfl, rfl, rfl, by decide +kernel, rfl, by decide +kernel, by decide +kernel⟩
theorem g__law_number (D : FunD K "_law_number" "_law_number" (defArgs (top 38)) (defBody (top 38)) (defScope (top 38)) [] [] f fd) (c__law_draw : Cal P w K mg base "_law_draw" 1 ["_law_pen_here", "_law_many"] [] F__law_draw) : GnOk P w K mg base 2 f fd ["_law_pen_here"] F__law_number := gn_of D z__law_number fun cdv B outer st G E hg hr => by
  have R : Rdy (cxOf (L2.CX P w) P w K mg base ["_law_pen_here", "_law_some"] "_law_number" (defScope (top 38)) f cdv B outer st G E) (fun c d _ H => E c d H) 1 := ⟨takes_of rfl rfl rfl rfl, hg, hr⟩
  exact bv_cons (sv_set (i := 1) (ev_lst (av_cons (ev_int) (av_cons (ev_int) (av_cons (ev_int) (av_cons (ev_int) (av_cons (ev_int) (av_cons (ev_int) (av_cons (ev_int) (av_cons (ev_pow (ev_int) (ev_int)) (av_cons (ev_cal c__law_draw R (av_cons (ev_var (i := 0)) (av_cons (ev_int) (av_nil)))) (av_cons (ev_cal c__law_draw R (av_cons (ev_var (i := 0)) (av_cons (ev_pow (ev_int) (ev_int)) (av_nil)))) (av_nil)))))))))))) z__law_number.nd) (bv_one (sv_ret (ev_ix R (ev_var (i := 1)) (ev_cal c__law_draw R (av_cons (ev_var (i := 0)) (av_cons (ev_int) (av_nil)))))))
noncomputable def d__law_kinds : DS := sSeq (sAsg (dLstO (aCons (dC (.str "a")) (aCons (dC (.str "aa")) (aCons (dC (.str "b")) (aCons (dC (.str "ba")) (aCons (dC (.str "c")) (aCons (dC (.str "k")) (aCons (dC (.str "l")) (aCons (dC (.str "o")) (aCons (dC (.str "zz")) (aCons (dC (.str "zzzzzzzz")) (aCons (dC (.str "m")) (aCons (dC (.str "ma")) (aCons (dC (.str "bounds")) (aCons (dC (.str "wishes")) (aCons (dC (.str "must")) (aCons (dC (.str "if")) (aNil)))))))))))))))))) (gNm 2)) (sSeq (sAsg (dOp addVO (dVar 2) (dLst (aCons (dC (.str "wish")) (aCons (dC (.str "open")) (aCons (dC (.str "to")) (aNil)))))) (gNm 2)) (sRet (dLc (iRg1 (aCons (dVar 1) (aNil))) [3] (gNm 3) (tYesD) (dMt "list" popV (dVar 2) (aCons (dCall F__law_draw 2 [] (aCons (dVar 0) (aCons (dCB (g1 len1) (aCons (dVar 2) (aNil))) (aNil)))) (aNil))))))
noncomputable def F__law_kinds : Fn := cutF (body 4 d__law_kinds)
theorem z__law_kinds : FnScope ["_law_pen_here", "_law_many", "_law_some", "_law_k"] ["_law_pen_here", "_law_many"] (defScope (top 37)) := ⟨rfl, rfl, rfl, by decide +kernel, rfl, by decide +kernel, by decide +kernel⟩
theorem g__law_kinds (D : FunD K "_law_kinds" "_law_kinds" (defArgs (top 37)) (defBody (top 37)) (defScope (top 37)) [] [] f fd) (q_range : mg "range" = none) (q_len : mg "len" = none) (c__law_draw : Cal P w K mg base "_law_draw" 1 ["_law_pen_here", "_law_many"] [] F__law_draw) : GnOk P w K mg base 2 f fd ["_law_pen_here", "_law_many"] F__law_kinds := GnOk.cut <| gn_of D z__law_kinds fun cdv B outer st G E hg hr => by
  have R : Rdy (cxOf (L2.CX P w) P w K mg base ["_law_pen_here", "_law_many", "_law_some", "_law_k"] "_law_kinds" (defScope (top 37)) f cdv B outer st G E) (fun c d _ H => E c d H) 1 := ⟨takes_of rfl rfl rfl rfl, hg, hr⟩
  exact bv_cons (sv_set (i := 2) (ev_lstO (av_cons (ev_str) (av_cons (ev_str) (av_cons (ev_str) (av_cons (ev_str) (av_cons (ev_str) (av_cons (ev_str) (av_cons (ev_str) (av_cons (ev_str) (av_cons (ev_str) (av_cons (ev_str) (av_cons (ev_str) (av_cons (ev_str) (av_cons (ev_str) (av_cons (ev_str) (av_cons (ev_str) (av_cons (ev_str) (av_nil)))))))))))))))))) z__law_kinds.nd) (bv_cons (sv_set (i := 2) (ev_addO (ev_var (i := 2)) (ev_lst (av_cons (ev_str) (av_cons (ev_str) (av_cons (ev_str) (av_nil)))))) z__law_kinds.nd) (bv_one (sv_ret (ev_lc (own := [("_law_k", 3)]) rfl z__law_kinds.nd (iv_rng1 rfl q_range (av_cons (ev_var (i := 1)) (av_nil))) (blkOk_by (N := ["_law_pen_here", "_law_many", "_law_some", "_law_k"]) (sc := defScope (top 37)) (by decide +kernel)) (fun s H C cl fp => gv_name (i := 3) z__law_kinds.nd) (fun s H C cl fp => tsv_nil) (fun s H C cl fp => ev_pop (ev_var (i := 2)) (av_cons (ev_cal c__law_draw (Rdy.blk R) (av_cons (ev_var (i := 0)) (av_cons (evG_cb b_len q_len bf_len (av_cons (ev_var (i := 2)) (av_nil))) (av_nil)))) (av_nil)))))))
noncomputable def d__law_pairs : DS := sSeq (sAsg (dCall F__law_kinds 2 [] (aCons (dVar 0) (aCons (dOp ixV (dLst (aCons (dC (.int 0)) (aCons (dC (.int 1)) (aCons (dCall F__law_draw 2 [] (aCons (dVar 0) (aCons (dOp addV (dVar 1) (dC (.int 1))) (aNil)))) (aCons (dVar 1) (aNil)))))) (dCall F__law_draw 2 [] (aCons (dVar 0) (aCons (dC (.int 4)) (aNil))))) (aNil)))) (gNm 2)) (sRet (dCB (g1 tuple1) (aCons (dLc (iSeq (dVar 2)) [3] (gNm 3) (tYesD) (dTup (aCons (dVar 3) (aCons (dOp ixV (dLst (aCons (dC (.int 0)) (aCons (dC (.int 9999)) (aCons (dCall F__law_draw 2 [] (aCons (dVar 0) (aCons (dC (.int 10000)) (aNil)))) (aNil))))) (dCall F__law_draw 2 [] (aCons (dVar 0) (aCons (dC (.int 3)) (aNil))))) (aNil))))) (aNil))))
noncomputable def F__law_pairs : Fn := body 4 d__law_pairs
theorem z__law_pairs : FnScope ["_law_pen_here", "_law_most", "_law_kinds_here", "_law_kind"] ["_law_pen_here", "_law_most"] (defScope (top 39)) := ⟨rfl, rfl, rfl, by decide +kernel, rfl, by decide +kernel, by decide +kernel⟩
theorem g__law_pairs (D : FunD K "_law_pairs" "_law_pairs" (defArgs (top 39)) (defBody (top 39)) (defScope (top 39)) [] [] f fd) (c__law_draw : Cal P w K mg base "_law_draw" 1 ["_law_pen_here", "_law_many"] [] F__law_draw) (c__law_kinds : Cal P w K mg base "_law_kinds" 2 ["_law_pen_here", "_law_many"] [] F__law_kinds) (q_tuple : mg "tuple" = none) : GnOk P w K mg base 3 f fd ["_law_pen_here", "_law_most"] F__law_pairs := gn_of D z__law_pairs fun cdv B outer st G E hg hr => by
  have R : Rdy (cxOf (L2.CX P w) P w K mg base ["_law_pen_here", "_law_most", "_law_kinds_here", "_law_kind"] "_law_pairs" (defScope (top 39)) f cdv B outer st G E) (fun c d _ H => E c d H) 2 := ⟨takes_of rfl rfl rfl rfl, hg, hr⟩
  exact bv_cons (sv_set (i := 2) (ev_cal c__law_kinds R (av_cons (ev_var (i := 0)) (av_cons (ev_ix R (ev_lst (av_cons (ev_int) (av_cons (ev_int) (av_cons (ev_cal c__law_draw R (av_cons (ev_var (i := 0)) (av_cons (ev_add (ev_var (i := 1)) (ev_int)) (av_nil)))) (av_cons (ev_var (i := 1)) (av_nil)))))) (ev_cal c__law_draw R (av_cons (ev_var (i := 0)) (av_cons (ev_int) (av_nil))))) (av_nil)))) z__law_pairs.nd) (bv_one (sv_ret (evG_cty b_tuple q_tuple bt_tuple (av_cons (ev_lc (own := [("_law_kind", 3)]) rfl z__law_pairs.nd (iv_seq (ev_var (i := 2))) (blkOk_by (N := ["_law_pen_here", "_law_most", "_law_kinds_here", "_law_kind"]) (sc := defScope (top 39)) (by decide +kernel)) (fun s H C cl fp => gv_name (i := 3) z__law_pairs.nd) (fun s H C cl fp => tsv_nil) (fun s H C cl fp => ev_tup (av_cons (ev_var (i := 3)) (av_cons (ev_ix (Rdy.blk R) (ev_lst (av_cons (ev_int) (av_cons (ev_int) (av_cons (ev_cal c__law_draw (Rdy.blk R) (av_cons (ev_var (i := 0)) (av_cons (ev_int) (av_nil)))) (av_nil))))) (ev_cal c__law_draw (Rdy.blk R) (av_cons (ev_var (i := 0)) (av_cons (ev_int) (av_nil))))) (av_nil))))) (av_nil)))))
noncomputable def d__law_some_letter : DS := sSeq (sAsg (dOp ixV (dLst (aCons (dC (.str "a")) (aCons (dC (.str "b")) (aCons (dC (.str "zzzzzzzz")) (aCons (dC (.str "me")) (aNil)))))) (dCall F__law_draw 2 [] (aCons (dVar 0) (aCons (dC (.int 4)) (aNil))))) (gNm 1)) (sSeq (sAsg (dOp ixV (dLst (aCons (dC (.str "ask")) (aCons (dC (.str "yes")) (aCons (dC (.str "no")) (aCons (dC (.str "rather")) (aCons (dC (.str "bye")) (aCons (dC (.str "here")) (aCons (dC (.str "there")) (aNil))))))))) (dCall F__law_draw 2 [] (aCons (dVar 0) (aCons (dC (.int 7)) (aNil))))) (gNm 2)) (sSeq (sAsg (dCB (g2 max2) (aCons (dC (.int 1)) (aCons (dCall F__law_number 1 [] (aCons (dVar 0) (aNil))) (aNil)))) (gNm 3)) (sSeq (sAsg (dOp ixV (dLst (aCons (dC (.int 0)) (aCons (dCall F__law_number 1 [] (aCons (dVar 0) (aNil))) (aNil)))) (dCall F__law_draw 2 [] (aCons (dVar 0) (aCons (dC (.int 2)) (aNil))))) (gNm 4)) (sSeq (sIf (asT (dOp inV' (dVar 2) (dTup (aCons (dC (.str "bye")) (aCons (dC (.str "here")) (aCons (dC (.str "there")) (aNil))))))) (sRet (dTup (aCons (dVar 1) (aCons (dVar 2) (aCons (dVar 3) (aCons (dVar 4) (aCons (dC (.int 0)) (aCons (dTup (aNil)) (aNil))))))))) (sNext)) (sRet (dTup (aCons (dVar 1) (aCons (dVar 2) (aCons (dVar 3) (aCons (dVar 4) (aCons (dCB (g2 max2) (aCons (dC (.int 1)) (aCons (dCall F__law_number 1 [] (aCons (dVar 0) (aNil))) (aNil)))) (aCons (dCall F__law_pairs 2 [] (aCons (dVar 0) (aCons (dC (.int 6)) (aNil)))) (aNil)))))))))))))
noncomputable def F__law_some_letter : Fn := body 5 d__law_some_letter
theorem z__law_some_letter : FnScope ["_law_pen_here", "_law_who", "_law_word", "_law_mine", "_law_yours"] ["_law_pen_here"] (defScope (top 40)) := ⟨rfl, rfl, rfl, by decide +kernel, rfl, by decide +kernel, by decide +kernel⟩
theorem g__law_some_letter (D : FunD K "_law_some_letter" "_law_some_letter" (defArgs (top 40)) (defBody (top 40)) (defScope (top 40)) [] [] f fd) (c__law_draw : Cal P w K mg base "_law_draw" 1 ["_law_pen_here", "_law_many"] [] F__law_draw) (c__law_number : Cal P w K mg base "_law_number" 2 ["_law_pen_here"] [] F__law_number) (q_max : mg "max" = none) (c__law_pairs : Cal P w K mg base "_law_pairs" 3 ["_law_pen_here", "_law_most"] [] F__law_pairs) : GnOk P w K mg base 4 f fd ["_law_pen_here"] F__law_some_letter := gn_of D z__law_some_letter fun cdv B outer st G E hg hr => by
  have R : Rdy (cxOf (L2.CX P w) P w K mg base ["_law_pen_here", "_law_who", "_law_word", "_law_mine", "_law_yours"] "_law_some_letter" (defScope (top 40)) f cdv B outer st G E) (fun c d _ H => E c d H) 3 := ⟨takes_of rfl rfl rfl rfl, hg, hr⟩
  exact bv_cons (sv_set (i := 1) (ev_ix R (ev_lst (av_cons (ev_str) (av_cons (ev_str) (av_cons (ev_str) (av_cons (ev_str) (av_nil)))))) (ev_cal c__law_draw R (av_cons (ev_var (i := 0)) (av_cons (ev_int) (av_nil))))) z__law_some_letter.nd) (bv_cons (sv_set (i := 2) (ev_ix R (ev_lst (av_cons (ev_str) (av_cons (ev_str) (av_cons (ev_str) (av_cons (ev_str) (av_cons (ev_str) (av_cons (ev_str) (av_cons (ev_str) (av_nil))))))))) (ev_cal c__law_draw R (av_cons (ev_var (i := 0)) (av_cons (ev_int) (av_nil))))) z__law_some_letter.nd) (bv_cons (sv_set (i := 3) (evG_cb b_max2 q_max bf_max (av_cons (ev_int) (av_cons (ev_cal c__law_number R (av_cons (ev_var (i := 0)) (av_nil))) (av_nil)))) z__law_some_letter.nd) (bv_cons (sv_set (i := 4) (ev_ix R (ev_lst (av_cons (ev_int) (av_cons (ev_cal c__law_number R (av_cons (ev_var (i := 0)) (av_nil))) (av_nil)))) (ev_cal c__law_draw R (av_cons (ev_var (i := 0)) (av_cons (ev_int) (av_nil))))) z__law_some_letter.nd) (bv_cons (sv_if (tv_c (c_in R) (ev_var (i := 2)) (ev_tup (av_cons (ev_str) (av_cons (ev_str) (av_cons (ev_str) (av_nil)))))) (bv_one (sv_ret (ev_tup (av_cons (ev_var (i := 1)) (av_cons (ev_var (i := 2)) (av_cons (ev_var (i := 3)) (av_cons (ev_var (i := 4)) (av_cons (ev_int) (av_cons (ev_tup (av_nil)) (av_nil)))))))))) (bv_nil)) (bv_one (sv_ret (ev_tup (av_cons (ev_var (i := 1)) (av_cons (ev_var (i := 2)) (av_cons (ev_var (i := 3)) (av_cons (ev_var (i := 4)) (av_cons (evG_cb b_max2 q_max bf_max (av_cons (ev_int) (av_cons (ev_cal c__law_number R (av_cons (ev_var (i := 0)) (av_nil))) (av_nil)))) (av_cons (ev_cal c__law_pairs R (av_cons (ev_var (i := 0)) (av_cons (ev_int) (av_nil)))) (av_nil))))))))))))))
noncomputable def d__law_refusal (L : LamR) (th : Thk) : DS := sSeq (sAsg (dC .non) (gNm 1)) (sSeq (sAsg (dC .non) (gNm 2)) (sSeq (sTry (tblE [("NoText", true)]) 3 (sAsg (dThunk 0 L th) (gNm 2)) (sAsg (dVar 3) (gNm 1))) (sSeq (sIf (asT (dOp isV2 (dVar 1) (dC .non))) (sRet (dLst (aCons (dVar 2) (aNil)))) (sNext)) (sSeq (sIf (asT (dCB (fun xs S => match xs with | [x, y] => isxV (tblM [("NoText", "NoDeed", false), ("NoText", "NoLine", false), ("NoText", "NoSaved", false), ("NoText", "NoTalk", false), ("NoText", "NotClosed", false), ("NoText", "NotOpen", false), ("NoText", "TooMany", false), ("NoText", "NoText", true)] [("NoText", "ValueError", true)]) x y S | _ => none) (aCons (dVar 1) (aCons (dTup (aCons (dC (.fn "NoDeed")) (aCons (dC (.fn "NoLine")) (aCons (dC (.fn "NoSaved")) (aCons (dC (.fn "NoTalk")) (aCons (dC (.fn "NotClosed")) (aCons (dC (.fn "NotOpen")) (aCons (dC (.fn "TooMany")) (aNil))))))))) (aNil))))) (sRet (dTup (aNil))) (sNext)) (sSeq (sIf (tOrD (tNotD (asT (dCB (fun xs S => match xs with | [x, y] => isxV (tblM [("NoText", "NoDeed", false), ("NoText", "NoLine", false), ("NoText", "NoSaved", false), ("NoText", "NoTalk", false), ("NoText", "NotClosed", false), ("NoText", "NotOpen", false), ("NoText", "TooMany", false), ("NoText", "NoText", true)] [("NoText", "ValueError", true)]) x y S | _ => none) (aCons (dVar 1) (aCons (dC (.fn "NoText")) (aNil)))))) (tNotD (asT (dCB (fun xs S => match xs with | [x, y] => isxV (tblM [("NoText", "NoDeed", false), ("NoText", "NoLine", false), ("NoText", "NoSaved", false), ("NoText", "NoTalk", false), ("NoText", "NotClosed", false), ("NoText", "NotOpen", false), ("NoText", "TooMany", false), ("NoText", "NoText", true)] [("NoText", "ValueError", true)]) x y S | _ => none) (aCons (dVar 1) (aCons (dC (.ty "ValueError")) (aNil))))))) (sRet (dTup (aNil))) (sNext)) (sRet (dTup (aCons (dXf "line" (["NoText"] : List Str) (dVar 1)) (aNil)))))))))
theorem z__law_refusal : FnScope ["_law_ask", "_law_caught", "_law_found", "e"] ["_law_ask"] (defScope (top 44)) := ⟨rfl, rfl, rfl, by decide +kernel, rfl, by decide +kernel, by decide +kernel⟩
theorem g__law_refusal {A : Around} {stack : List PySem.Env} (x_WishError : ∀ y b, tblE [("NoText", true)] y = some b → PySem.W.exmOne K (.ref (He.ga K y)) (.ref (He.ga K "WishError")) = some b) (m_WishError : mg "WishError" = some (.ref (He.ga K "WishError"))) (M_isx : IsxOk K (tblM [("NoText", "NoDeed", false), ("NoText", "NoLine", false), ("NoText", "NoSaved", false), ("NoText", "NoTalk", false), ("NoText", "NotClosed", false), ("NoText", "NotOpen", false), ("NoText", "TooMany", false), ("NoText", "NoText", true)] [("NoText", "ValueError", true)])) (m_TooMany : mg "TooMany" = some (.ref (He.ga K "TooMany"))) (m_NotOpen : mg "NotOpen" = some (.ref (He.ga K "NotOpen"))) (m_NotClosed : mg "NotClosed" = some (.ref (He.ga K "NotClosed"))) (m_NoTalk : mg "NoTalk" = some (.ref (He.ga K "NoTalk"))) (m_NoSaved : mg "NoSaved" = some (.ref (He.ga K "NoSaved"))) (m_NoLine : mg "NoLine" = some (.ref (He.ga K "NoLine"))) (m_NoDeed : mg "NoDeed" = some (.ref (He.ga K "NoDeed"))) (q_isinstance : mg "isinstance" = none) (m_NoText : mg "NoText" = some (.ref (He.ga K "NoText"))) (q_ValueError : mg "ValueError" = none) (f_line : ∀ c ∈ (["NoText"] : List Str), ExcK K (He.ga K c) ∧ PySem.W.findIn K (.ref (He.ga K c)) "line" = some none) {kq : Nat} {ga : Addr} : GivesD P w K mg base A stack kq ["_law_ask", "_law_caught", "_law_found", "e"] "_law_refusal" (defScope (top 44)) ga (defBody (top 44)) "_law_ask" d__law_refusal := fun L th s H E cdg act R => by
  exact bv_cons (sv_set (i := 1) (ev_non) z__law_refusal.nd) (bv_cons (sv_set (i := 2) (ev_non) z__law_refusal.nd) (bv_cons (sv_try (i := 3) rfl rfl z__law_refusal.nd m_WishError x_WishError (Rdy.tk R) (fun W2 pn2 xe2 tk2 _ => bv_one (sv_set (i := 2) (act _ _ _ _ _ tk2) z__law_refusal.nd)) (fun a2 pn2 => bv_one (sv_set (i := 1) (ev_var (i := 3)) z__law_refusal.nd))) (bv_cons (sv_if (tv_c (c_is R) (ev_var (i := 1)) (ev_non)) (bv_one (sv_ret (ev_lst (av_cons (ev_var (i := 2)) (av_nil))))) (bv_nil)) (bv_cons (sv_if (tv_val (evG_cb (b_isx M_isx) q_isinstance bf_isinstance (av_cons (ev_var (i := 1)) (av_cons (ev_tup (av_cons (evG_cls m_NoDeed) (av_cons (evG_cls m_NoLine) (av_cons (evG_cls m_NoSaved) (av_cons (evG_cls m_NoTalk) (av_cons (evG_cls m_NotClosed) (av_cons (evG_cls m_NotOpen) (av_cons (evG_cls m_TooMany) (av_nil))))))))) (av_nil))))) (bv_one (sv_ret (ev_tup (av_nil)))) (bv_nil)) (bv_cons (sv_if ((wv_or (tv_not (tv_val (evG_cb (b_isx M_isx) q_isinstance bf_isinstance (av_cons (ev_var (i := 1)) (av_cons (evG_cls m_NoText) (av_nil)))))) (wv_or1 (tv_not (tv_val (evG_cb (b_isx M_isx) q_isinstance bf_isinstance (av_cons (ev_var (i := 1)) (av_cons (evG_ty q_ValueError bt_ValueError) (av_nil)))))))).tv) (bv_one (sv_ret (ev_tup (av_nil)))) (bv_nil)) (bv_one (sv_ret (ev_tup (av_cons (ev_xf (ev_var (i := 1)) f_line) (av_nil))))))))))
noncomputable def d__law_number_in : DS := sSeq (sIf (tOrD (tNotD (asT (dChn ltV ltV (dC (.int 0)) (dCB (g1 len1) (aCons (dVar 0) (aNil))) (dC (.int 11))))) (asT (dOp neV' (dLc (iStrD (dVar 0)) [1] (gNm 1) (asT (dOp notInV' (dVar 1) (dC (.str "0123456789")))) (dVar 1)) (dLst (aNil))))) (sRet (negV (dC (.int 1)))) (sNext)) (sRet (dIf (tOrD (asT (dOp eqV' (dVar 0) (dC (.str "0")))) (asT (dOp neV' (dOp ixV (dVar 0) (dC (.int 0))) (dC (.str "0"))))) (dCB (g1 int1) (aCons (dVar 0) (aNil))) (negV (dC (.int 1)))))
noncomputable def F__law_number_in : Fn := body 2 d__law_number_in
theorem z__law_number_in : FnScope ["_law_word", "_law_sign"] ["_law_word"] (defScope (top 43)) := ⟨rfl, rfl, rfl, by decide +kernel, rfl, by decide +kernel, by decide +kernel⟩
theorem g__law_number_in (D : FunD K "_law_number_in" "_law_number_in" (defArgs (top 43)) (defBody (top 43)) (defScope (top 43)) [] [] f fd) (q_len : mg "len" = none) (q_int : mg "int" = none) : GnOk P w K mg base 1 f fd ["_law_word"] F__law_number_in := gn_of D z__law_number_in fun cdv B outer st G E hg hr => by
  have R : Rdy (cxOf (L2.CX P w) P w K mg base ["_law_word", "_law_sign"] "_law_number_in" (defScope (top 43)) f cdv B outer st G E) (fun c d _ H => E c d H) 0 := ⟨takes_of rfl rfl rfl rfl, hg, hr⟩
  exact bv_cons (sv_if ((wv_or (tv_not (tv_chain (c_lt R) (c_lt R) (ev_int) (evG_cb b_len q_len bf_len (av_cons (ev_var (i := 0)) (av_nil))) (ev_int))) (wv_or1 (tv_c (c_ne R) (ev_lc (own := [("_law_sign", 1)]) rfl z__law_number_in.nd (iv_str (ev_var (i := 0))) (blkOk_by (N := ["_law_word", "_law_sign"]) (sc := defScope (top 43)) (by decide +kernel)) (fun s H C cl fp => gv_name (i := 1) z__law_number_in.nd) (fun s H C cl fp => tsv_one (tv_c (c_notIn (Rdy.blk R)) (ev_var (i := 1)) (ev_str))) (fun s H C cl fp => ev_var (i := 1))) (ev_lst (av_nil))))).tv) (bv_one (sv_ret (ev_neg (ev_int)))) (bv_nil)) (bv_one (sv_ret (ev_if ((wv_or (tv_c (c_eq R) (ev_var (i := 0)) (ev_str)) (wv_or1 (tv_c (c_ne R) (ev_ix R (ev_var (i := 0)) (ev_int)) (ev_str)))).tv) (evG_cty b_int q_int bt_int (av_cons (ev_var (i := 0)) (av_nil))) (ev_neg (ev_int)))))
noncomputable def d__law_is_name : DS := sSeq (sAsg (dC (.str "abcdefghijklmnopqrstuvwxyz")) (gNm 1)) (sRet (dAnd (dCB (g2 isiV) (aCons (dVar 0) (aCons (dC (.ty "str")) (aNil)))) (dAnd (dChn ltV ltV (dC (.int 0)) (dCB (g1 len1) (aCons (dVar 0) (aNil))) (dC (.int 9))) (dOp eqV' (dLc (iStrD (dVar 0)) [2] (gNm 2) (asT (dOp notInV' (dVar 2) (dVar 1))) (dVar 2)) (dLst (aNil))))))
noncomputable def F__law_is_name : Fn := body 3 d__law_is_name
theorem z__law_is_name : FnScope ["_law_thing", "_law_letters", "_law_sign"] ["_law_thing"] (defScope (top 41)) := ⟨rfl, rfl, rfl, by decide +kernel, rfl, by decide +kernel, by decide +kernel⟩
theorem g__law_is_name (D : FunD K "_law_is_name" "_law_is_name" (defArgs (top 41)) (defBody (top 41)) (defScope (top 41)) [] [] f fd) (q_str : mg "str" = none) (q_isinstance : mg "isinstance" = none) (q_len : mg "len" = none) : GnOk P w K mg base 1 f fd ["_law_thing"] F__law_is_name := gn_of D z__law_is_name fun cdv B outer st G E hg hr => by
  have R : Rdy (cxOf (L2.CX P w) P w K mg base ["_law_thing", "_law_letters", "_law_sign"] "_law_is_name" (defScope (top 41)) f cdv B outer st G E) (fun c d _ H => E c d H) 0 := ⟨takes_of rfl rfl rfl rfl, hg, hr⟩
  exact bv_cons (sv_set (i := 1) (ev_str) z__law_is_name.nd) (bv_one (sv_ret (ev_and (evG_cb b_isi q_isinstance bf_isinstance (av_cons (ev_var (i := 0)) (av_cons (evG_ty q_str bt_str) (av_nil)))) (ev_and (ev_chain (c_lt R) (c_lt R) (ev_int) (evG_cb b_len q_len bf_len (av_cons (ev_var (i := 0)) (av_nil))) (ev_int)) (ev_one (ev_c (c_eq R) (ev_lc (own := [("_law_sign", 2)]) rfl z__law_is_name.nd (iv_str (ev_var (i := 0))) (blkOk_by (N := ["_law_thing", "_law_letters", "_law_sign"]) (sc := defScope (top 41)) (by decide +kernel)) (fun s H C cl fp => gv_name (i := 2) z__law_is_name.nd) (fun s H C cl fp => tsv_one (tv_c (c_notIn (Rdy.blk R)) (ev_var (i := 2)) (ev_var (i := 1)))) (fun s H C cl fp => ev_var (i := 2))) (ev_lst (av_nil))))))))
noncomputable def d__law_is_worth : DS := sRet (dAnd (dCB (g2 isiV) (aCons (dVar 0) (aCons (dC (.ty "int")) (aNil)))) (dAnd (dNot (dCB (g2 isiV) (aCons (dVar 0) (aCons (dC (.ty "bool")) (aNil))))) (dChn leV leV (dC (.int 0)) (dVar 0) (dC (.int 9999)))))
noncomputable def F__law_is_worth : Fn := body 1 d__law_is_worth
theorem z__law_is_worth : FnScope ["_law_thing"] ["_law_thing"] (defScope (top 42)) := ⟨rfl, rfl, rfl, by decide +kernel, rfl, by decide +kernel, by decide +kernel⟩
theorem g__law_is_worth (D : FunD K "_law_is_worth" "_law_is_worth" (defArgs (top 42)) (defBody (top 42)) (defScope (top 42)) [] [] f fd) (q_int : mg "int" = none) (q_isinstance : mg "isinstance" = none) (q_bool : mg "bool" = none) : GnOk P w K mg base 1 f fd ["_law_thing"] F__law_is_worth := gn_of D z__law_is_worth fun cdv B outer st G E hg hr => by
  have R : Rdy (cxOf (L2.CX P w) P w K mg base ["_law_thing"] "_law_is_worth" (defScope (top 42)) f cdv B outer st G E) (fun c d _ H => E c d H) 0 := ⟨takes_of rfl rfl rfl rfl, hg, hr⟩
  exact bv_one (sv_ret (ev_and (evG_cb b_isi q_isinstance bf_isinstance (av_cons (ev_var (i := 0)) (av_cons (evG_ty q_int bt_int) (av_nil)))) (ev_and (ev_not (evG_cb b_isi q_isinstance bf_isinstance (av_cons (ev_var (i := 0)) (av_cons (evG_ty q_bool bt_bool) (av_nil))))) (ev_one (ev_chain (c_le R) (c_le R) (ev_int) (ev_var (i := 0)) (ev_int))))))
noncomputable def d__law_due : DS := sSeq (sAsg (dMt "str" splitV (dVar 0) (aCons (dC (.str " ")) (aNil))) (gNm 1)) (sSeq (sIf (tOrD (asT (dOp ltV (dCB (g1 len1) (aCons (dVar 1) (aNil))) (dC (.int 5)))) (tNotD (asT (dCall F__law_is_name 1 [] (aCons (dOp ixV (dVar 1) (dC (.int 0))) (aNil)))))) (sRet (dTup (aCons (dC (.int 0)) (aNil)))) (sNext)) (sSeq (sAsg (dLc (iSeq (dSl (dVar 1) (some (dC (.int 2))) (some (dC (.int 5))))) [4] (gNm 4) (tYesD) (dCall F__law_number_in 1 [] (aCons (dVar 4) (aNil)))) (gNm 2)) (sSeq (sAsg (dLstO (aNil)) (gNm 3)) (sSeq (sFor (iSeq (dSl (dVar 1) (some (dC (.int 5))) none)) (gNm 4) (sSeq (sAsg (dMt "str" splitV (dVar 4) (aCons (dC (.str "=")) (aNil))) (gNm 5)) (sSeq (sAsg (dCall F__law_number_in 1 [] (aCons (dOp ixV (dVar 5) (negV (dC (.int 1)))) (aNil))) (gNm 6)) (sSeq (sIf (tOrD (asT (dOp neV' (dCB (g1 len1) (aCons (dVar 5) (aNil))) (dC (.int 2)))) (tOrD (tNotD (asT (dCall F__law_is_name 1 [] (aCons (dOp ixV (dVar 5) (dC (.int 0))) (aNil))))) (tNotD (asT (dCall F__law_is_worth 1 [] (aCons (dVar 6) (aNil))))))) (sRet (dTup (aCons (dC (.int 0)) (aNil)))) (sNext)) (sExpr (dMt "list" appendV (dVar 3) (aCons (dTup (aCons (dOp ixV (dVar 5) (dC (.int 0))) (aCons (dVar 6) (aNil)))) (aNil)))))))) (sSeq (sAsg (dOp inV' (dOp ixV (dVar 1) (dC (.int 1))) (dTup (aCons (dC (.str "bye")) (aCons (dC (.str "here")) (aCons (dC (.str "there")) (aNil)))))) (gNm 7)) (sSeq (sIf (tOrD (tAndD (tNotD (asT (dVar 7))) (asT (dOp notInV' (dOp ixV (dVar 1) (dC (.int 1))) (dTup (aCons (dC (.str "ask")) (aCons (dC (.str "yes")) (aCons (dC (.str "no")) (aCons (dC (.str "rather")) (aNil))))))))) (tOrD (asT (dOp ltV (dCB (g1 minL) (aCons (dVar 2) (aNil))) (dC (.int 0)))) (asT (dOp ltV (dOp ixV (dVar 2) (dC (.int 0))) (dC (.int 1)))))) (sRet (dTup (aCons (dC (.int 0)) (aNil)))) (sNext)) (sSeq (sIf (tOrD (asT (dOp neV' (dVar 7) (dOp eqV' (dOp ixV (dVar 2) (dC (.int 2))) (dC (.int 0))))) (tOrD (tAndD (asT (dVar 7)) (asT (dOp neV' (dVar 3) (dLst (aNil))))) (asT (dOp gtV (dCB (g1 len1) (aCons (dVar 3) (aNil))) (dC (.int 6)))))) (sRet (dTup (aCons (dC (.int 0)) (aNil)))) (sNext)) (sSeq (sIf (asT (dOp ltV (dLenSetS (dLcR (iOwn (dVar 3)) [8, 6] (gSeq 2 (gsCons (gNm 8) (gsCons (gNm 6) (gsNil)))) (tYesD) (dVar 8))) (dCB (g1 len1) (aCons (dVar 3) (aNil))))) (sRet (dTup (aCons (dC (.int 0)) (aNil)))) (sNext)) (sRet (dLst (aCons (dOp addV (dOp addV (dTup (aCons (dOp ixV (dVar 1) (dC (.int 0))) (aCons (dOp ixV (dVar 1) (dC (.int 1))) (aNil)))) (dCB (g1 tuple1) (aCons (dVar 2) (aNil)))) (dTup (aCons (dCB (g1 tuple1) (aCons (dVar 3) (aNil))) (aNil)))) (aNil))))))))))))
noncomputable def F__law_due : Fn := cutF (body 9 d__law_due)
theorem z__law_due : FnScope ["_law_text", "_law_words", "_law_numbers", "_law_pairs_here", "_law_word", "_law_parts", "_law_worth", "_law_bare", "_law_kind"] ["_law_text"] (defScope (top 47)) := ⟨rfl, rfl, rfl, by decide +kernel, rfl, by decide +kernel, by decide +kernel⟩
theorem g__law_due (D : FunD K "_law_due" "_law_due" (defArgs (top 47)) (defBody (top 47)) (defScope (top 47)) [] [] f fd) (q_len : mg "len" = none) (c__law_is_name : Cal P w K mg base "_law_is_name" 1 ["_law_thing"] [] F__law_is_name) (c__law_number_in : Cal P w K mg base "_law_number_in" 1 ["_law_word"] [] F__law_number_in) (c__law_is_worth : Cal P w K mg base "_law_is_worth" 1 ["_law_thing"] [] F__law_is_worth) (q_min : mg "min" = none) (q_set : mg "set" = none) (q_tuple : mg "tuple" = none) : GnOk P w K mg base 2 f fd ["_law_text"] F__law_due := GnOk.cut <| gn_of D z__law_due fun cdv B outer st G E hg hr => by
  have R : Rdy (cxOf (L2.CX P w) P w K mg base ["_law_text", "_law_words", "_law_numbers", "_law_pairs_here", "_law_word", "_law_parts", "_law_worth", "_law_bare", "_law_kind"] "_law_due" (defScope (top 47)) f cdv B outer st G E) (fun c d _ H => E c d H) 1 := ⟨takes_of rfl rfl rfl rfl, hg, hr⟩
  exact bv_cons (sv_set (i := 1) (ev_split (ev_var (i := 0)) (av_cons (ev_str) (av_nil))) z__law_due.nd) (bv_cons (sv_if ((wv_or (tv_c (c_lt R) (evG_cb b_len q_len bf_len (av_cons (ev_var (i := 1)) (av_nil))) (ev_int)) (wv_or1 (tv_not (tv_val (ev_cal c__law_is_name R (av_cons (ev_ix R (ev_var (i := 1)) (ev_int)) (av_nil))))))).tv) (bv_one (sv_ret (ev_tup (av_cons (ev_int) (av_nil))))) (bv_nil)) (bv_cons (sv_setLc (i := 2) (own := [("_law_word", 4)]) rfl z__law_due.nd (iv_seq (ev_sl (ev_var (i := 1)) (ov_some (ev_int)) (ov_some (ev_int)))) (blkOk_by (N := ["_law_text", "_law_words", "_law_numbers", "_law_pairs_here", "_law_word", "_law_parts", "_law_worth", "_law_bare", "_law_kind"]) (sc := defScope (top 47)) (by decide +kernel)) (fun s H C cl fp => gv_name (i := 4) z__law_due.nd) (fun s H C cl fp => tsv_nil) (fun s H C cl fp => ev_cal c__law_number_in (Rdy.blk R) (av_cons (ev_var (i := 4)) (av_nil))) rfl) (bv_cons (sv_set (i := 3) (ev_lstO (av_nil)) z__law_due.nd) (bv_cons (sv_for (passes_of rfl) rfl (iv_seq (ev_sl (ev_var (i := 1)) (ov_some (ev_int)) ov_none)) (gv_name (i := 4) z__law_due.nd) (bv_cons (sv_set (i := 5) (ev_split (ev_var (i := 4)) (av_cons (ev_str) (av_nil))) z__law_due.nd) (bv_cons (sv_set (i := 6) (ev_cal c__law_number_in R (av_cons (ev_ix R (ev_var (i := 5)) (ev_neg (ev_int))) (av_nil))) z__law_due.nd) (bv_cons (sv_if ((wv_or (tv_c (c_ne R) (evG_cb b_len q_len bf_len (av_cons (ev_var (i := 5)) (av_nil))) (ev_int)) (wv_or (tv_not (tv_val (ev_cal c__law_is_name R (av_cons (ev_ix R (ev_var (i := 5)) (ev_int)) (av_nil))))) (wv_or1 (tv_not (tv_val (ev_cal c__law_is_worth R (av_cons (ev_var (i := 6)) (av_nil)))))))).tv) (bv_one (sv_ret (ev_tup (av_cons (ev_int) (av_nil))))) (bv_nil)) (bv_one (sv_expr (ev_append (ev_var (i := 3)) (av_cons (ev_tup (av_cons (ev_ix R (ev_var (i := 5)) (ev_int)) (av_cons (ev_var (i := 6)) (av_nil)))) (av_nil))))))))) (bv_cons (sv_set (i := 7) (ev_c (c_in R) (ev_ix R (ev_var (i := 1)) (ev_int)) (ev_tup (av_cons (ev_str) (av_cons (ev_str) (av_cons (ev_str) (av_nil)))))) z__law_due.nd) (bv_cons (sv_if ((wv_or ((wv_and (tv_not (tv_val (ev_var (i := 7)))) (wv_and1 (tv_c (c_notIn R) (ev_ix R (ev_var (i := 1)) (ev_int)) (ev_tup (av_cons (ev_str) (av_cons (ev_str) (av_cons (ev_str) (av_cons (ev_str) (av_nil))))))))).tv) (wv_or (tv_c (c_lt R) (evG_cb b_minL q_min bf_min (av_cons (ev_var (i := 2)) (av_nil))) (ev_int)) (wv_or1 (tv_c (c_lt R) (ev_ix R (ev_var (i := 2)) (ev_int)) (ev_int))))).tv) (bv_one (sv_ret (ev_tup (av_cons (ev_int) (av_nil))))) (bv_nil)) (bv_cons (sv_if ((wv_or (tv_c (c_ne R) (ev_var (i := 7)) (ev_c (c_eq R) (ev_ix R (ev_var (i := 2)) (ev_int)) (ev_int))) (wv_or ((wv_and (tv_val (ev_var (i := 7))) (wv_and1 (tv_c (c_ne R) (ev_var (i := 3)) (ev_lst (av_nil))))).tv) (wv_or1 (tv_c (c_gt R) (evG_cb b_len q_len bf_len (av_cons (ev_var (i := 3)) (av_nil))) (ev_int))))).tv) (bv_one (sv_ret (ev_tup (av_cons (ev_int) (av_nil))))) (bv_nil)) (bv_cons (sv_if (tv_c (c_lt R) (ev_lenSetS rfl rfl q_len rfl q_set (ev_lcR (own := [("_law_kind", 8), ("_law_worth", 6)]) rfl z__law_due.nd (rv_own (ev_var (i := 3))) (blkOk_by (N := ["_law_text", "_law_words", "_law_numbers", "_law_pairs_here", "_law_word", "_law_parts", "_law_worth", "_law_bare", "_law_kind"]) (sc := defScope (top 47)) (by decide +kernel)) (fun s H C cl fp => gv_seq (n := 2) rfl (gsv_cons (gv_name (i := 8) z__law_due.nd) (gsv_cons (gv_name (i := 6) z__law_due.nd) (gsv_nil)))) (fun s H C cl fp => tsv_nil) (fun s H C cl fp => ev_var (i := 8)))) (evG_cb b_len q_len bf_len (av_cons (ev_var (i := 3)) (av_nil)))) (bv_one (sv_ret (ev_tup (av_cons (ev_int) (av_nil))))) (bv_nil)) (bv_one (sv_ret (ev_lst (av_cons (ev_add (ev_add (ev_tup (av_cons (ev_ix R (ev_var (i := 1)) (ev_int)) (av_cons (ev_ix R (ev_var (i := 1)) (ev_int)) (av_nil)))) (evG_cty b_tuple q_tuple bt_tuple (av_cons (ev_var (i := 2)) (av_nil)))) (ev_tup (av_cons (evG_cty b_tuple q_tuple bt_tuple (av_cons (ev_var (i := 3)) (av_nil))) (av_nil)))) (av_nil)))))))))))))
noncomputable def d__law_sign_bent : DS := sSeq (sAsg (dC (.str " !\"#$&'()*+,-./0123456789:;<=>?@ABCDEFGHIJKLMNOPQRSTUVWXYZ")) (gNm 3)) (sSeq (sAsg (dOp addV (dVar 3) (dC (.str "[\\]^_`abcdefghijklmnopqrstuvwxyz{|}~\n"))) (gNm 3)) (sSeq (sAsg (dOp ixV (dLst (aCons (dVar 3) (aCons (dVar 2) (aNil)))) (dCB (g1 int1) (aCons (dOp gtV (dCall F__law_draw 2 [] (aCons (dVar 0) (aCons (dC (.int 3)) (aNil)))) (dC (.int 0))) (aNil)))) (gNm 3)) (sSeq (sAsg (dOp ixV (dVar 3) (dCall F__law_draw 2 [] (aCons (dVar 0) (aCons (dCB (g1 len1) (aCons (dVar 3) (aNil))) (aNil))))) (gNm 4)) (sSeq (sAsg (dCall F__law_draw 2 [] (aCons (dVar 0) (aCons (dOp addV (dCB (g1 len1) (aCons (dVar 1) (aNil))) (dC (.int 1))) (aNil)))) (gNm 5)) (sSeq (sAsg (dCall F__law_draw 2 [] (aCons (dVar 0) (aCons (dC (.int 5)) (aNil)))) (gNm 6)) (sSeq (sIf (asT (dOp eqV' (dVar 6) (dC (.int 4)))) (sSeq (sAsg (dOp addV (dSl (dVar 1) (some (dOp addV (dVar 5) (dC (.int 1)))) (some (dOp addV (dVar 5) (dC (.int 2))))) (dSl (dVar 1) (some (dVar 5)) (some (dOp addV (dVar 5) (dC (.int 1)))))) (gNm 7)) (sRet (dOp addV (dOp addV (dSl (dVar 1) none (some (dVar 5))) (dVar 7)) (dSl (dVar 1) (some (dOp addV (dVar 5) (dC (.int 2)))) none)))) (sNext)) (sSeq (sAsg (dLst (aCons (dVar 4) (aCons (dVar 4) (aCons (dC (.str "")) (aCons (dOp twiceV (dSl (dVar 1) (some (dVar 5)) (some (dOp addV (dVar 5) (dC (.int 1))))) (dC (.int 2))) (aNil)))))) (gNm 8)) (sRet (dOp addV (dOp addV (dSl (dVar 1) none (some (dVar 5))) (dOp ixV (dVar 8) (dVar 6))) (dSl (dVar 1) (some (dOp addV (dVar 5) (dCB (g1 int1) (aCons (dOp gtV (dVar 6) (dC (.int 0))) (aNil))))) none))))))))))
noncomputable def F__law_sign_bent : Fn := body 9 d__law_sign_bent
theorem z__law_sign_bent : FnScope ["_law_pen_here", "_law_text", "_law_likely", "_law_signs", "_law_sign", "_law_spot", "_law_way", "_law_swap", "_law_some"] ["_law_pen_here", "_law_text", "_law_likely"] (defScope (top 45)) := ⟨rfl, rfl, rfl, by decide +kernel, rfl, by decide +kernel, by decide +kernel⟩
theorem g__law_sign_bent (D : FunD K "_law_sign_bent" "_law_sign_bent" (defArgs (top 45)) (defBody (top 45)) (defScope (top 45)) [] [] f fd) (c__law_draw : Cal P w K mg base "_law_draw" 1 ["_law_pen_here", "_law_many"] [] F__law_draw) (q_int : mg "int" = none) (q_len : mg "len" = none) : GnOk P w K mg base 2 f fd ["_law_pen_here", "_law_text", "_law_likely"] F__law_sign_bent := gn_of D z__law_sign_bent fun cdv B outer st G E hg hr => by
  have R : Rdy (cxOf (L2.CX P w) P w K mg base ["_law_pen_here", "_law_text", "_law_likely", "_law_signs", "_law_sign", "_law_spot", "_law_way", "_law_swap", "_law_some"] "_law_sign_bent" (defScope (top 45)) f cdv B outer st G E) (fun c d _ H => E c d H) 1 := ⟨takes_of rfl rfl rfl rfl, hg, hr⟩
  exact bv_cons (sv_set (i := 3) (ev_str) z__law_sign_bent.nd) (bv_cons (sv_set (i := 3) (ev_add (ev_var (i := 3)) (ev_str)) z__law_sign_bent.nd) (bv_cons (sv_set (i := 3) (ev_ix R (ev_lst (av_cons (ev_var (i := 3)) (av_cons (ev_var (i := 2)) (av_nil)))) (evG_cty b_int q_int bt_int (av_cons (ev_c (c_gt R) (ev_cal c__law_draw R (av_cons (ev_var (i := 0)) (av_cons (ev_int) (av_nil)))) (ev_int)) (av_nil)))) z__law_sign_bent.nd) (bv_cons (sv_set (i := 4) (ev_ix R (ev_var (i := 3)) (ev_cal c__law_draw R (av_cons (ev_var (i := 0)) (av_cons (evG_cb b_len q_len bf_len (av_cons (ev_var (i := 3)) (av_nil))) (av_nil))))) z__law_sign_bent.nd) (bv_cons (sv_set (i := 5) (ev_cal c__law_draw R (av_cons (ev_var (i := 0)) (av_cons (ev_add (evG_cb b_len q_len bf_len (av_cons (ev_var (i := 1)) (av_nil))) (ev_int)) (av_nil)))) z__law_sign_bent.nd) (bv_cons (sv_set (i := 6) (ev_cal c__law_draw R (av_cons (ev_var (i := 0)) (av_cons (ev_int) (av_nil)))) z__law_sign_bent.nd) (bv_cons (sv_if (tv_c (c_eq R) (ev_var (i := 6)) (ev_int)) (bv_cons (sv_set (i := 7) (ev_add (ev_sl (ev_var (i := 1)) (ov_some (ev_add (ev_var (i := 5)) (ev_int))) (ov_some (ev_add (ev_var (i := 5)) (ev_int)))) (ev_sl (ev_var (i := 1)) (ov_some (ev_var (i := 5))) (ov_some (ev_add (ev_var (i := 5)) (ev_int))))) z__law_sign_bent.nd) (bv_one (sv_ret (ev_add (ev_add (ev_sl (ev_var (i := 1)) ov_none (ov_some (ev_var (i := 5)))) (ev_var (i := 7))) (ev_sl (ev_var (i := 1)) (ov_some (ev_add (ev_var (i := 5)) (ev_int))) ov_none))))) (bv_nil)) (bv_cons (sv_set (i := 8) (ev_lst (av_cons (ev_var (i := 4)) (av_cons (ev_var (i := 4)) (av_cons (ev_str) (av_cons (ev_twice (ev_sl (ev_var (i := 1)) (ov_some (ev_var (i := 5))) (ov_some (ev_add (ev_var (i := 5)) (ev_int)))) (ev_int)) (av_nil)))))) z__law_sign_bent.nd) (bv_one (sv_ret (ev_add (ev_add (ev_sl (ev_var (i := 1)) ov_none (ov_some (ev_var (i := 5)))) (ev_ix R (ev_var (i := 8)) (ev_var (i := 6)))) (ev_sl (ev_var (i := 1)) (ov_some (ev_add (ev_var (i := 5)) (evG_cty b_int q_int bt_int (av_cons (ev_c (c_gt R) (ev_var (i := 6)) (ev_int)) (av_nil))))) ov_none)))))))))))
noncomputable def d__law_word_bent : DS := sSeq (sAsg (dMt "str" splitVO (dVar 1) (aCons (dC (.str "\n")) (aNil))) (gNm 3)) (sSeq (sAsg (dCall F__law_draw 2 [] (aCons (dVar 0) (aCons (dCB (g1 len1) (aCons (dVar 3) (aNil))) (aNil)))) (gNm 4)) (sSeq (sAsg (dMt "str" splitV (dOp ixV (dVar 3) (dVar 4)) (aCons (dC (.str " ")) (aNil))) (gNm 5)) (sSeq (sAsg (dCall F__law_draw 2 [] (aCons (dVar 0) (aCons (dCB (g1 len1) (aCons (dVar 5) (aNil))) (aNil)))) (gNm 6)) (sSeq (sAsg (dCall F__law_draw 2 [] (aCons (dVar 0) (aCons (dCB (g1 len1) (aCons (dVar 5) (aNil))) (aNil)))) (gNm 7)) (sSeq (sAsg (dOp ixV (dVar 2) (dCall F__law_draw 2 [] (aCons (dVar 0) (aCons (dCB (g1 len1) (aCons (dVar 2) (aNil))) (aNil))))) (gNm 8)) (sSeq (sAsg (dCB (g1 list1O) (aCons (dVar 5) (aNil))) (gNm 9)) (sSeq (sSub (dOp ixV (dVar 5) (dVar 7)) (dVar 9) (dVar 6)) (sSeq (sSub (dOp ixV (dVar 5) (dVar 6)) (dVar 9) (dVar 7)) (sSeq (sAsg (dLst (aCons (dOp addV (dOp addV (dSl (dVar 5) none (some (dVar 6))) (dLst (aCons (dVar 8) (aNil)))) (dSl (dVar 5) (some (dOp addV (dVar 6) (dC (.int 1)))) none)) (aCons (dOp addV (dOp addV (dSl (dVar 5) none (some (dVar 6))) (dLst (aCons (dVar 8) (aNil)))) (dSl (dVar 5) (some (dVar 6)) none)) (aCons (dOp addV (dSl (dVar 5) none (some (dVar 6))) (dSl (dVar 5) (some (dOp addV (dVar 6) (dC (.int 1)))) none)) (aNil))))) (gNm 10)) (sSeq (sAsg (dOp addV (dVar 10) (dLst (aCons (dVar 9) (aCons (dOp addV (dSl (dVar 5) none (some (dOp addV (dVar 6) (dC (.int 1))))) (dSl (dVar 5) (some (dVar 6)) none)) (aNil))))) (gNm 10)) (sSeq (sSub (dMt "str" joinV (dC (.str " ")) (aCons (dOp ixV (dVar 10) (dCall F__law_draw 2 [] (aCons (dVar 0) (aCons (dC (.int 5)) (aNil))))) (aNil))) (dVar 3) (dVar 4)) (sRet (dMt "str" joinV (dC (.str "\n")) (aCons (dVar 3) (aNil)))))))))))))))
noncomputable def F__law_word_bent : Fn := cutF (body 11 d__law_word_bent)
theorem z__law_word_bent : FnScope ["_law_pen_here", "_law_text", "_law_others", "_law_lines", "_law_mine", "_law_words", "_law_one", "_law_two", "_law_new", "_law_turn", "_law_some"] ["_law_pen_here", "_law_text", "_law_others"] (defScope (top 46)) := ⟨rfl, rfl, rfl, by decide +kernel, rfl, by decide +kernel, by decide +kernel⟩
theorem g__law_word_bent (D : FunD K "_law_word_bent" "_law_word_bent" (defArgs (top 46)) (defBody (top 46)) (defScope (top 46)) [] [] f fd) (q_len : mg "len" = none) (c__law_draw : Cal P w K mg base "_law_draw" 1 ["_law_pen_here", "_law_many"] [] F__law_draw) (q_list : mg "list" = none) : GnOk P w K mg base 2 f fd ["_law_pen_here", "_law_text", "_law_others"] F__law_word_bent := GnOk.cut <| gn_of D z__law_word_bent fun cdv B outer st G E hg hr => by
  have R : Rdy (cxOf (L2.CX P w) P w K mg base ["_law_pen_here", "_law_text", "_law_others", "_law_lines", "_law_mine", "_law_words", "_law_one", "_law_two", "_law_new", "_law_turn", "_law_some"] "_law_word_bent" (defScope (top 46)) f cdv B outer st G E) (fun c d _ H => E c d H) 1 := ⟨takes_of rfl rfl rfl rfl, hg, hr⟩
  exact bv_cons (sv_set (i := 3) (ev_splitO (ev_var (i := 1)) (av_cons (ev_str) (av_nil))) z__law_word_bent.nd) (bv_cons (sv_set (i := 4) (ev_cal c__law_draw R (av_cons (ev_var (i := 0)) (av_cons (evG_cb b_len q_len bf_len (av_cons (ev_var (i := 3)) (av_nil))) (av_nil)))) z__law_word_bent.nd) (bv_cons (sv_set (i := 5) (ev_split (ev_ix R (ev_var (i := 3)) (ev_var (i := 4))) (av_cons (ev_str) (av_nil))) z__law_word_bent.nd) (bv_cons (sv_set (i := 6) (ev_cal c__law_draw R (av_cons (ev_var (i := 0)) (av_cons (evG_cb b_len q_len bf_len (av_cons (ev_var (i := 5)) (av_nil))) (av_nil)))) z__law_word_bent.nd) (bv_cons (sv_set (i := 7) (ev_cal c__law_draw R (av_cons (ev_var (i := 0)) (av_cons (evG_cb b_len q_len bf_len (av_cons (ev_var (i := 5)) (av_nil))) (av_nil)))) z__law_word_bent.nd) (bv_cons (sv_set (i := 8) (ev_ix R (ev_var (i := 2)) (ev_cal c__law_draw R (av_cons (ev_var (i := 0)) (av_cons (evG_cb b_len q_len bf_len (av_cons (ev_var (i := 2)) (av_nil))) (av_nil))))) z__law_word_bent.nd) (bv_cons (sv_set (i := 9) (evG_cty b_listO q_list bt_list (av_cons (ev_var (i := 5)) (av_nil))) z__law_word_bent.nd) (bv_cons (sv_sub R (ev_ix R (ev_var (i := 5)) (ev_var (i := 7))) (ev_var (i := 9)) (ev_var (i := 6))) (bv_cons (sv_sub R (ev_ix R (ev_var (i := 5)) (ev_var (i := 6))) (ev_var (i := 9)) (ev_var (i := 7))) (bv_cons (sv_set (i := 10) (ev_lst (av_cons (ev_add (ev_add (ev_sl (ev_var (i := 5)) ov_none (ov_some (ev_var (i := 6)))) (ev_lst (av_cons (ev_var (i := 8)) (av_nil)))) (ev_sl (ev_var (i := 5)) (ov_some (ev_add (ev_var (i := 6)) (ev_int))) ov_none)) (av_cons (ev_add (ev_add (ev_sl (ev_var (i := 5)) ov_none (ov_some (ev_var (i := 6)))) (ev_lst (av_cons (ev_var (i := 8)) (av_nil)))) (ev_sl (ev_var (i := 5)) (ov_some (ev_var (i := 6))) ov_none)) (av_cons (ev_add (ev_sl (ev_var (i := 5)) ov_none (ov_some (ev_var (i := 6)))) (ev_sl (ev_var (i := 5)) (ov_some (ev_add (ev_var (i := 6)) (ev_int))) ov_none)) (av_nil))))) z__law_word_bent.nd) (bv_cons (sv_set (i := 10) (ev_add (ev_var (i := 10)) (ev_lst (av_cons (ev_var (i := 9)) (av_cons (ev_add (ev_sl (ev_var (i := 5)) ov_none (ov_some (ev_add (ev_var (i := 6)) (ev_int)))) (ev_sl (ev_var (i := 5)) (ov_some (ev_var (i := 6))) ov_none)) (av_nil))))) z__law_word_bent.nd) (bv_cons (sv_sub R (ev_join (ev_str) (av_cons (ev_ix R (ev_var (i := 10)) (ev_cal c__law_draw R (av_cons (ev_var (i := 0)) (av_cons (ev_int) (av_nil))))) (av_nil))) (ev_var (i := 3)) (ev_var (i := 4))) (bv_one (sv_ret (ev_join (ev_str) (av_cons (ev_var (i := 3)) (av_nil))))))))))))))))
noncomputable def d_need_text : DS := sIf (tNotD (asT (dCB (g2 isiV) (aCons (dVar 0) (aCons (dC (.ty "str")) (aNil)))))) (sRaiseI "NoText" "line" (aCons (dC .non) (aNil))) (sNext)
noncomputable def F_need_text : Fn := body 1 d_need_text
theorem z_need_text : FnScope ["thing"] ["thing"] (defScope (top 28)) := ⟨rfl, rfl, rfl, by decide +kernel, rfl, by decide +kernel, by decide +kernel⟩
theorem g_need_text (D : FunD K "need_text" "need_text" (defArgs (top 28)) (defBody (top 28)) (defScope (top 28)) [] [] f fd) (q_str : mg "str" = none) (q_isinstance : mg "isinstance" = none) (O_NoText : OwnX P w K mg base "NoText" "line") : GnOk P w K mg base 3 f fd ["thing"] F_need_text := gn_of D z_need_text fun cdv B outer st G E hg hr => by
  have R : Rdy (cxOf (L2.CX P w) P w K mg base ["thing"] "need_text" (defScope (top 28)) f cdv B outer st G E) (fun c d _ H => E c d H) 2 := ⟨takes_of rfl rfl rfl rfl, hg, hr⟩
  exact bv_one (sv_if (tv_not (tv_val (evG_cb b_isi q_isinstance bf_isinstance (av_cons (ev_var (i := 0)) (av_cons (evG_ty q_str bt_str) (av_nil)))))) (bv_one (sv_raiseI O_NoText R rfl (av_cons (ev_non) (av_nil)))) (bv_nil))
noncomputable def d_need : DS := sIf (tNotD (asT (dVar 0))) (sRaiseI "NoText" "line" (aCons (dVar 1) (aNil))) (sNext)
noncomputable def F_need : Fn := body 2 d_need
theorem z_need : FnScope ["is_right", "line"] ["is_right", "line"] (defScope (top 27)) := ⟨rfl, rfl, rfl, by decide +kernel, rfl, by decide +kernel, by decide +kernel⟩
theorem g_need (D : FunD K "need" "need" (defArgs (top 27)) (defBody (top 27)) (defScope (top 27)) [] [("line", .int 0)] f fd) (O_NoText : OwnX P w K mg base "NoText" "line") : GnOk P w K mg base 3 f fd ["is_right", "line"] F_need := gn_of D z_need fun cdv B outer st G E hg hr => by
  have R : Rdy (cxOf (L2.CX P w) P w K mg base ["is_right", "line"] "need" (defScope (top 27)) f cdv B outer st G E) (fun c d _ H => E c d H) 2 := ⟨takes_of rfl rfl rfl rfl, hg, hr⟩
  exact bv_one (sv_if (tv_not (tv_val (ev_var (i := 0)))) (bv_one (sv_raiseI O_NoText R rfl (av_cons (ev_var (i := 1)) (av_nil)))) (bv_nil))
noncomputable def d_number_by : DS := sSeq (sIf (tOrD (tNotD (asT (dChn leV leV (dC (.int 1)) (dCB (g1 len1) (aCons (dVar 0) (aNil))) (dC (.int 10))))) (tNotD (asT (dCB (g1 all1) (aCons (dLc (iStrD (dVar 0)) [1] (gNm 1) (tYesD) (dOp inV' (dVar 1) (dC (.str "0123456789")))) (aNil)))))) (sRet (dC .non)) (sNext)) (sRet (dIf (tOrD (asT (dOp eqV' (dVar 0) (dC (.str "0")))) (asT (dOp neV' (dOp ixV (dVar 0) (dC (.int 0))) (dC (.str "0"))))) (dCB (g1 int1) (aCons (dVar 0) (aNil))) (dC .non)))
noncomputable def F_number_by : Fn := body 2 d_number_by
theorem z_number_by : FnScope ["word", "sign"] ["word"] (defScope (top 29)) := ⟨rfl, rfl, rfl, by decide +kernel, rfl, by decide +kernel, by decide +kernel⟩
theorem g_number_by (D : FunD K "number_by" "number_by" (defArgs (top 29)) (defBody (top 29)) (defScope (top 29)) [] [] f fd) (q_len : mg "len" = none) (k_MOST_FIGURES : ∃ t, mg "MOST_FIGURES" = some (.int 10 t)) (k_FIGURES : ∃ t, mg "FIGURES" = some (.str "0123456789" t)) (q_all : mg "all" = none) (q_int : mg "int" = none) : GnOk P w K mg base 1 f fd ["word"] F_number_by := gn_of D z_number_by fun cdv B outer st G E hg hr => by
  have R : Rdy (cxOf (L2.CX P w) P w K mg base ["word", "sign"] "number_by" (defScope (top 29)) f cdv B outer st G E) (fun c d _ H => E c d H) 0 := ⟨takes_of rfl rfl rfl rfl, hg, hr⟩
  exact bv_cons (sv_if ((wv_or (tv_not (tv_chain (c_le R) (c_le R) (ev_int) (evG_cb b_len q_len bf_len (av_cons (ev_var (i := 0)) (av_nil))) (evG_int k_MOST_FIGURES))) (wv_or1 (tv_not (tv_val (evG_cb b_all q_all bf_all (av_cons (ev_lc (own := [("sign", 1)]) rfl z_number_by.nd (iv_str (ev_var (i := 0))) (blkOk_by (N := ["word", "sign"]) (sc := defScope (top 29)) (by decide +kernel)) (fun s H C cl fp => gv_name (i := 1) z_number_by.nd) (fun s H C cl fp => tsv_nil) (fun s H C cl fp => ev_c (c_in (Rdy.blk R)) (ev_var (i := 1)) (evG_str k_FIGURES))) (av_nil))))))).tv) (bv_one (sv_ret (ev_non))) (bv_nil)) (bv_one (sv_ret (ev_if ((wv_or (tv_c (c_eq R) (ev_var (i := 0)) (ev_str)) (wv_or1 (tv_c (c_ne R) (ev_ix R (ev_var (i := 0)) (ev_int)) (ev_str)))).tv) (evG_cty b_int q_int bt_int (av_cons (ev_var (i := 0)) (av_nil))) (ev_non))))
noncomputable def d_is_count : DS := sRet (dAnd (dCB (g2 isiV) (aCons (dVar 0) (aCons (dC (.ty "int")) (aNil)))) (dAnd (dNot (dCB (g2 isiV) (aCons (dVar 0) (aCons (dC (.ty "bool")) (aNil))))) (dOp geV (dVar 0) (dVar 1))))
noncomputable def F_is_count : Fn := body 2 d_is_count
theorem z_is_count : FnScope ["thing", "least"] ["thing", "least"] (defScope (top 20)) := ⟨rfl, rfl, rfl, by decide +kernel, rfl, by decide +kernel, by decide +kernel⟩
theorem g_is_count (D : FunD K "is_count" "is_count" (defArgs (top 20)) (defBody (top 20)) (defScope (top 20)) [] [] f fd) (q_int : mg "int" = none) (q_isinstance : mg "isinstance" = none) (q_bool : mg "bool" = none) : GnOk P w K mg base 1 f fd ["thing", "least"] F_is_count := gn_of D z_is_count fun cdv B outer st G E hg hr => by
  have R : Rdy (cxOf (L2.CX P w) P w K mg base ["thing", "least"] "is_count" (defScope (top 20)) f cdv B outer st G E) (fun c d _ H => E c d H) 0 := ⟨takes_of rfl rfl rfl rfl, hg, hr⟩
  exact bv_one (sv_ret (ev_and (evG_cb b_isi q_isinstance bf_isinstance (av_cons (ev_var (i := 0)) (av_cons (evG_ty q_int bt_int) (av_nil)))) (ev_and (ev_not (evG_cb b_isi q_isinstance bf_isinstance (av_cons (ev_var (i := 0)) (av_cons (evG_ty q_bool bt_bool) (av_nil))))) (ev_one (ev_c (c_ge R) (ev_var (i := 0)) (ev_var (i := 1)))))))
noncomputable def d_is_name : DS := sRet (dAnd (dCB (g2 isiV) (aCons (dVar 0) (aCons (dC (.ty "str")) (aNil)))) (dAnd (dChn leV leV (dC (.int 1)) (dCB (g1 len1) (aCons (dVar 0) (aNil))) (dC (.int 8))) (dCB (g1 all1) (aCons (dLc (iStrD (dVar 0)) [1] (gNm 1) (tYesD) (dOp inV' (dVar 1) (dC (.str "abcdefghijklmnopqrstuvwxyz")))) (aNil)))))
noncomputable def F_is_name : Fn := body 2 d_is_name
theorem z_is_name : FnScope ["thing", "sign"] ["thing"] (defScope (top 14)) := ⟨rfl, rfl, rfl, by decide +kernel, rfl, by decide +kernel, by decide +kernel⟩
theorem g_is_name (D : FunD K "is_name" "is_name" (defArgs (top 14)) (defBody (top 14)) (defScope (top 14)) [] [] f fd) (q_str : mg "str" = none) (q_isinstance : mg "isinstance" = none) (q_len : mg "len" = none) (k_LONGEST : ∃ t, mg "LONGEST" = some (.int 8 t)) (k_LETTERS : ∃ t, mg "LETTERS" = some (.str "abcdefghijklmnopqrstuvwxyz" t)) (q_all : mg "all" = none) : GnOk P w K mg base 1 f fd ["thing"] F_is_name := gn_of D z_is_name fun cdv B outer st G E hg hr => by
  have R : Rdy (cxOf (L2.CX P w) P w K mg base ["thing", "sign"] "is_name" (defScope (top 14)) f cdv B outer st G E) (fun c d _ H => E c d H) 0 := ⟨takes_of rfl rfl rfl rfl, hg, hr⟩
  exact bv_one (sv_ret (ev_and (evG_cb b_isi q_isinstance bf_isinstance (av_cons (ev_var (i := 0)) (av_cons (evG_ty q_str bt_str) (av_nil)))) (ev_and (ev_chain (c_le R) (c_le R) (ev_int) (evG_cb b_len q_len bf_len (av_cons (ev_var (i := 0)) (av_nil))) (evG_int k_LONGEST)) (ev_one (evG_cb b_all q_all bf_all (av_cons (ev_lc (own := [("sign", 1)]) rfl z_is_name.nd (iv_str (ev_var (i := 0))) (blkOk_by (N := ["thing", "sign"]) (sc := defScope (top 14)) (by decide +kernel)) (fun s H C cl fp => gv_name (i := 1) z_is_name.nd) (fun s H C cl fp => tsv_nil) (fun s H C cl fp => ev_c (c_in (Rdy.blk R)) (ev_var (i := 1)) (evG_str k_LETTERS))) (av_nil)))))))
noncomputable def d_is_worth : DS := sRet (dAnd (dCB (g2 isiV) (aCons (dVar 0) (aCons (dC (.ty "int")) (aNil)))) (dAnd (dNot (dCB (g2 isiV) (aCons (dVar 0) (aCons (dC (.ty "bool")) (aNil))))) (dChn leV leV (dC (.int 0)) (dVar 0) (dC (.int 9999)))))
noncomputable def F_is_worth : Fn := body 1 d_is_worth
theorem z_is_worth : FnScope ["thing"] ["thing"] (defScope (top 15)) := ⟨rfl, rfl, rfl, by decide +kernel, rfl, by decide +kernel, by decide +kernel⟩
theorem g_is_worth (D : FunD K "is_worth" "is_worth" (defArgs (top 15)) (defBody (top 15)) (defScope (top 15)) [] [] f fd) (q_int : mg "int" = none) (q_isinstance : mg "isinstance" = none) (q_bool : mg "bool" = none) (k_GREATEST : ∃ t, mg "GREATEST" = some (.int 9999 t)) : GnOk P w K mg base 1 f fd ["thing"] F_is_worth := gn_of D z_is_worth fun cdv B outer st G E hg hr => by
  have R : Rdy (cxOf (L2.CX P w) P w K mg base ["thing"] "is_worth" (defScope (top 15)) f cdv B outer st G E) (fun c d _ H => E c d H) 0 := ⟨takes_of rfl rfl rfl rfl, hg, hr⟩
  exact bv_one (sv_ret (ev_and (evG_cb b_isi q_isinstance bf_isinstance (av_cons (ev_var (i := 0)) (av_cons (evG_ty q_int bt_int) (av_nil)))) (ev_and (ev_not (evG_cb b_isi q_isinstance bf_isinstance (av_cons (ev_var (i := 0)) (av_cons (evG_ty q_bool bt_bool) (av_nil))))) (ev_one (ev_chain (c_le R) (c_le R) (ev_int) (ev_var (i := 0)) (evG_int k_GREATEST))))))
noncomputable def d_is_pair : DS := sRet (dAnd (dCB (g2 isiV) (aCons (dVar 0) (aCons (dC (.ty "tuple")) (aNil)))) (dAnd (dOp eqV' (dCB (g1 len1) (aCons (dVar 0) (aNil))) (dC (.int 2))) (dAnd (dCall F_is_name 1 [] (aCons (dOp ixV (dVar 0) (dC (.int 0))) (aNil))) (dCall F_is_worth 1 [] (aCons (dOp ixV (dVar 0) (dC (.int 1))) (aNil))))))
noncomputable def F_is_pair : Fn := body 1 d_is_pair
theorem z_is_pair : FnScope ["thing"] ["thing"] (defScope (top 21)) := ⟨rfl, rfl, rfl, by decide +kernel, rfl, by decide +kernel, by decide +kernel⟩
theorem g_is_pair (D : FunD K "is_pair" "is_pair" (defArgs (top 21)) (defBody (top 21)) (defScope (top 21)) [] [] f fd) (q_tuple : mg "tuple" = none) (q_isinstance : mg "isinstance" = none) (q_len : mg "len" = none) (c_is_name : Cal P w K mg base "is_name" 1 ["thing"] [] F_is_name) (c_is_worth : Cal P w K mg base "is_worth" 1 ["thing"] [] F_is_worth) : GnOk P w K mg base 2 f fd ["thing"] F_is_pair := gn_of D z_is_pair fun cdv B outer st G E hg hr => by
  have R : Rdy (cxOf (L2.CX P w) P w K mg base ["thing"] "is_pair" (defScope (top 21)) f cdv B outer st G E) (fun c d _ H => E c d H) 1 := ⟨takes_of rfl rfl rfl rfl, hg, hr⟩
  exact bv_one (sv_ret (ev_and (evG_cb b_isi q_isinstance bf_isinstance (av_cons (ev_var (i := 0)) (av_cons (evG_ty q_tuple bt_tuple) (av_nil)))) (ev_and (ev_c (c_eq R) (evG_cb b_len q_len bf_len (av_cons (ev_var (i := 0)) (av_nil))) (ev_int)) (ev_and (ev_cal c_is_name R (av_cons (ev_ix R (ev_var (i := 0)) (ev_int)) (av_nil))) (ev_one (ev_cal c_is_worth R (av_cons (ev_ix R (ev_var (i := 0)) (ev_int)) (av_nil))))))))
noncomputable def d_are_pairs : DS := sSeq (sIf (tOrD (tNotD (asT (dCB (g2 isiV) (aCons (dVar 0) (aCons (dC (.ty "tuple")) (aNil)))))) (tOrD (asT (dOp gtV (dCB (g1 len1) (aCons (dVar 0) (aNil))) (dC (.int 6)))) (tNotD (asT (dCB (g1 all1) (aCons (dLc (iSeq (dVar 0)) [1] (gNm 1) (tYesD) (dCall F_is_pair 1 [] (aCons (dVar 1) (aNil)))) (aNil))))))) (sRet (dC (.bl false))) (sNext)) (sRet (dOp eqV' (dLenSk (iSeq (dVar 0)) [2, 3] (gSeq 2 (gsCons (gNm 2) (gsCons (gNm 3) (gsNil)))) (tYesD) (dVar 2)) (dCB (g1 len1) (aCons (dVar 0) (aNil)))))
noncomputable def F_are_pairs : Fn := body 4 d_are_pairs
theorem z_are_pairs : FnScope ["thing", "one", "kind", "worth"] ["thing"] (defScope (top 22)) := ⟨rfl, rfl, rfl, by decide +kernel, rfl, by decide +kernel, by decide +kernel⟩
theorem g_are_pairs (D : FunD K "are_pairs" "are_pairs" (defArgs (top 22)) (defBody (top 22)) (defScope (top 22)) [] [] f fd) (q_tuple : mg "tuple" = none) (q_isinstance : mg "isinstance" = none) (q_len : mg "len" = none) (k_MOST_PAIRS : ∃ t, mg "MOST_PAIRS" = some (.int 6 t)) (c_is_pair : Cal P w K mg base "is_pair" 2 ["thing"] [] F_is_pair) (q_all : mg "all" = none) : GnOk P w K mg base 3 f fd ["thing"] F_are_pairs := gn_of D z_are_pairs fun cdv B outer st G E hg hr => by
  have R : Rdy (cxOf (L2.CX P w) P w K mg base ["thing", "one", "kind", "worth"] "are_pairs" (defScope (top 22)) f cdv B outer st G E) (fun c d _ H => E c d H) 2 := ⟨takes_of rfl rfl rfl rfl, hg, hr⟩
  exact bv_cons (sv_if ((wv_or (tv_not (tv_val (evG_cb b_isi q_isinstance bf_isinstance (av_cons (ev_var (i := 0)) (av_cons (evG_ty q_tuple bt_tuple) (av_nil)))))) (wv_or (tv_c (c_gt R) (evG_cb b_len q_len bf_len (av_cons (ev_var (i := 0)) (av_nil))) (evG_int k_MOST_PAIRS)) (wv_or1 (tv_not (tv_val (evG_cb b_all q_all bf_all (av_cons (ev_lc (own := [("one", 1)]) rfl z_are_pairs.nd (iv_seq (ev_var (i := 0))) (blkOk_by (N := ["thing", "one", "kind", "worth"]) (sc := defScope (top 22)) (by decide +kernel)) (fun s H C cl fp => gv_name (i := 1) z_are_pairs.nd) (fun s H C cl fp => tsv_nil) (fun s H C cl fp => ev_cal c_is_pair (Rdy.blk R) (av_cons (ev_var (i := 1)) (av_nil)))) (av_nil)))))))).tv) (bv_one (sv_ret (ev_bl))) (bv_nil)) (bv_one (sv_ret (ev_c (c_eq R) (ev_lenSk (own := [("kind", 2), ("worth", 3)]) rfl q_len rfl z_are_pairs.nd (iv_seq (ev_var (i := 0))) (blkOk_by (N := ["thing", "one", "kind", "worth"]) (sc := defScope (top 22)) (by decide +kernel)) (fun s H C cl fp => gv_seq (n := 2) rfl (gsv_cons (gv_name (i := 2) z_are_pairs.nd) (gsv_cons (gv_name (i := 3) z_are_pairs.nd) (gsv_nil)))) (fun s H C cl fp => tsv_nil) (fun s H C cl fp => ev_var (i := 2))) (evG_cb b_len q_len bf_len (av_cons (ev_var (i := 0)) (av_nil))))))
noncomputable def d_is_letter : DS := sSeq (sIf (tOrD (tNotD (asT (dCB (g2 isiV) (aCons (dVar 0) (aCons (dC (.ty "tuple")) (aNil)))))) (asT (dOp neV' (dCB (g1 len1) (aCons (dVar 0) (aNil))) (dC (.int 6))))) (sRet (dC (.bl false))) (sNext)) (sSeq (sAsg (dVar 0) (gSeq 6 (gsCons (gNm 1) (gsCons (gNm 2) (gsCons (gNm 3) (gsCons (gNm 4) (gsCons (gNm 5) (gsCons (gNm 6) (gsNil))))))))) (sSeq (sIf (tOrD (tNotD (asT (dCall F_is_name 1 [] (aCons (dVar 1) (aNil))))) (tOrD (tNotD (asT (dCB (g2 isiV) (aCons (dVar 2) (aCons (dC (.ty "str")) (aNil)))))) (tOrD (tNotD (asT (dCall F_is_count 2 [] (aCons (dVar 3) (aCons (dC (.int 1)) (aNil)))))) (tNotD (asT (dCall F_is_count 2 [] (aCons (dVar 4) (aCons (dC (.int 0)) (aNil))))))))) (sRet (dC (.bl false))) (sNext)) (sSeq (sIf (asT (dOp inV' (dVar 2) (dC (.tup [.str "ask", .str "yes", .str "no", .str "rather"])))) (sRet (dAnd (dCall F_is_count 2 [] (aCons (dVar 5) (aCons (dC (.int 1)) (aNil)))) (dCall F_are_pairs 1 [] (aCons (dVar 6) (aNil))))) (sNext)) (sRet (dAnd (dOp inV' (dVar 2) (dC (.tup [.str "bye", .str "here", .str "there"]))) (dAnd (dCall F_is_count 2 [] (aCons (dVar 5) (aCons (dC (.int 0)) (aNil)))) (dAnd (dOp eqV' (dVar 5) (dC (.int 0))) (dAnd (dCB (g2 isiV) (aCons (dVar 6) (aCons (dC (.ty "tuple")) (aNil)))) (dOp eqV' (dVar 6) (dTup (aNil)))))))))))
noncomputable def F_is_letter : Fn := body 7 d_is_letter
theorem z_is_letter : FnScope ["thing", "who", "word", "mine", "yours", "number", "pairs"] ["thing"] (defScope (top 23)) := ⟨rfl, rfl, rfl, by decide +kernel, rfl, by decide +kernel, by decide +kernel⟩
theorem g_is_letter (D : FunD K "is_letter" "is_letter" (defArgs (top 23)) (defBody (top 23)) (defScope (top 23)) [] [] f fd) (q_tuple : mg "tuple" = none) (q_isinstance : mg "isinstance" = none) (q_len : mg "len" = none) (c_is_name : Cal P w K mg base "is_name" 1 ["thing"] [] F_is_name) (q_str : mg "str" = none) (c_is_count : Cal P w K mg base "is_count" 1 ["thing", "least"] [] F_is_count) (t_NUMBERED : mg "NUMBERED" = some (.ref (He.ga K "NUMBERED")) ∧ ∀ w, Dat K w (.tup [.str "ask", .str "yes", .str "no", .str "rather"]) (.ref (He.ga K "NUMBERED"))) (c_are_pairs : Cal P w K mg base "are_pairs" 3 ["thing"] [] F_are_pairs) (t_BARE : mg "BARE" = some (.ref (He.ga K "BARE")) ∧ ∀ w, Dat K w (.tup [.str "bye", .str "here", .str "there"]) (.ref (He.ga K "BARE"))) : GnOk P w K mg base 4 f fd ["thing"] F_is_letter := gn_of D z_is_letter fun cdv B outer st G E hg hr => by
  have R : Rdy (cxOf (L2.CX P w) P w K mg base ["thing", "who", "word", "mine", "yours", "number", "pairs"] "is_letter" (defScope (top 23)) f cdv B outer st G E) (fun c d _ H => E c d H) 3 := ⟨takes_of rfl rfl rfl rfl, hg, hr⟩
  exact bv_cons (sv_if ((wv_or (tv_not (tv_val (evG_cb b_isi q_isinstance bf_isinstance (av_cons (ev_var (i := 0)) (av_cons (evG_ty q_tuple bt_tuple) (av_nil)))))) (wv_or1 (tv_c (c_ne R) (evG_cb b_len q_len bf_len (av_cons (ev_var (i := 0)) (av_nil))) (ev_int)))).tv) (bv_one (sv_ret (ev_bl))) (bv_nil)) (bv_cons (sv_asg (ev_var (i := 0)) (gv_seq (n := 6) rfl (gsv_cons (gv_name (i := 1) z_is_letter.nd) (gsv_cons (gv_name (i := 2) z_is_letter.nd) (gsv_cons (gv_name (i := 3) z_is_letter.nd) (gsv_cons (gv_name (i := 4) z_is_letter.nd) (gsv_cons (gv_name (i := 5) z_is_letter.nd) (gsv_cons (gv_name (i := 6) z_is_letter.nd) (gsv_nil))))))))) (bv_cons (sv_if ((wv_or (tv_not (tv_val (ev_cal c_is_name R (av_cons (ev_var (i := 1)) (av_nil))))) (wv_or (tv_not (tv_val (evG_cb b_isi q_isinstance bf_isinstance (av_cons (ev_var (i := 2)) (av_cons (evG_ty q_str bt_str) (av_nil)))))) (wv_or (tv_not (tv_val (ev_cal c_is_count R (av_cons (ev_var (i := 3)) (av_cons (ev_int) (av_nil)))))) (wv_or1 (tv_not (tv_val (ev_cal c_is_count R (av_cons (ev_var (i := 4)) (av_cons (ev_int) (av_nil)))))))))).tv) (bv_one (sv_ret (ev_bl))) (bv_nil)) (bv_cons (sv_if (tv_c (c_in R) (ev_var (i := 2)) (evG_val t_NUMBERED)) (bv_one (sv_ret (ev_and (ev_cal c_is_count R (av_cons (ev_var (i := 5)) (av_cons (ev_int) (av_nil)))) (ev_one (ev_cal c_are_pairs R (av_cons (ev_var (i := 6)) (av_nil))))))) (bv_nil)) (bv_one (sv_ret (ev_and (ev_c (c_in R) (ev_var (i := 2)) (evG_val t_BARE)) (ev_and (ev_cal c_is_count R (av_cons (ev_var (i := 5)) (av_cons (ev_int) (av_nil)))) (ev_and (ev_c (c_eq R) (ev_var (i := 5)) (ev_int)) (ev_and (evG_cb b_isi q_isinstance bf_isinstance (av_cons (ev_var (i := 6)) (av_cons (evG_ty q_tuple bt_tuple) (av_nil)))) (ev_one (ev_c (c_eq R) (ev_var (i := 6)) (ev_tup (av_nil)))))))))))))
noncomputable def d_pair_by : DS := sSeq (sAsg (dMt "str" splitV (dVar 0) (aCons (dC (.str "=")) (aNil))) (gNm 1)) (sRet (dIf (asT (dOp eqV' (dCB (g1 len1) (aCons (dVar 1) (aNil))) (dC (.int 2)))) (dTup (aCons (dOp ixV (dVar 1) (dC (.int 0))) (aCons (dCall F_number_by 1 [] (aCons (dOp ixV (dVar 1) (dC (.int 1))) (aNil))) (aNil)))) (dC .non)))
noncomputable def F_pair_by : Fn := body 2 d_pair_by
theorem z_pair_by : FnScope ["word", "parts"] ["word"] (defScope (top 30)) := ⟨rfl, rfl, rfl, by decide +kernel, rfl, by decide +kernel, by decide +kernel⟩
theorem g_pair_by (D : FunD K "pair_by" "pair_by" (defArgs (top 30)) (defBody (top 30)) (defScope (top 30)) [] [] f fd) (q_len : mg "len" = none) (c_number_by : Cal P w K mg base "number_by" 1 ["word"] [] F_number_by) : GnOk P w K mg base 2 f fd ["word"] F_pair_by := gn_of D z_pair_by fun cdv B outer st G E hg hr => by
  have R : Rdy (cxOf (L2.CX P w) P w K mg base ["word", "parts"] "pair_by" (defScope (top 30)) f cdv B outer st G E) (fun c d _ H => E c d H) 1 := ⟨takes_of rfl rfl rfl rfl, hg, hr⟩
  exact bv_cons (sv_set (i := 1) (ev_split (ev_var (i := 0)) (av_cons (ev_str) (av_nil))) z_pair_by.nd) (bv_one (sv_ret (ev_if (tv_c (c_eq R) (evG_cb b_len q_len bf_len (av_cons (ev_var (i := 1)) (av_nil))) (ev_int)) (ev_tup (av_cons (ev_ix R (ev_var (i := 1)) (ev_int)) (av_cons (ev_cal c_number_by R (av_cons (ev_ix R (ev_var (i := 1)) (ev_int)) (av_nil))) (av_nil)))) (ev_non))))
noncomputable def d_read_letter : DS := sSeq (sExpr (dCall F_need_text 1 [] (aCons (dVar 0) (aNil)))) (sSeq (sAsg (dMt "str" splitV (dVar 0) (aCons (dC (.str " ")) (aNil))) (gStar 2 1 (gsCons (gNm 1) (gsCons (gNm 2) (gsNil))))) (sSeq (sExpr (dCall F_need 2 [.int 0] (aCons (dOp gtV (dCB (g1 len1) (aCons (dVar 2) (aNil))) (dC (.int 3))) (aNil)))) (sSeq (sAsg (dVar 2) (gStar 2 1 (gsCons (gNm 3) (gsCons (gNm 4) (gsNil))))) (sSeq (sAsg (dLc (iSeq (dSl (dVar 4) none (some (dC (.int 3))))) [11] (gNm 11) (tYesD) (dCall F_number_by 1 [] (aCons (dVar 11) (aNil)))) (gNm 5)) (sSeq (sAsg (dCB (g1 tuple1) (aCons (dLc (iSeq (dSl (dVar 4) (some (dC (.int 3))) none)) [11] (gNm 11) (tYesD) (dCall F_pair_by 1 [] (aCons (dVar 11) (aNil)))) (aNil))) (gNm 6)) (sSeq (sExpr (dCall F_need 2 [.int 0] (aCons (dAnd (dOp notInV' (dC .non) (dVar 5)) (dOp notInV' (dC .non) (dVar 6))) (aNil)))) (sSeq (sAsg (dVar 5) (gSeq 3 (gsCons (gNm 7) (gsCons (gNm 8) (gsCons (gNm 9) (gsNil)))))) (sSeq (sAsg (dTup (aCons (dVar 1) (aCons (dVar 3) (aCons (dVar 7) (aCons (dVar 8) (aCons (dVar 9) (aCons (dVar 6) (aNil)))))))) (gNm 10)) (sSeq (sExpr (dCall F_need 2 [.int 0] (aCons (dCall F_is_letter 1 [] (aCons (dVar 10) (aNil))) (aNil)))) (sRet (dVar 10)))))))))))
noncomputable def F_read_letter : Fn := body 12 d_read_letter
theorem z_read_letter : FnScope ["text", "who", "words", "word", "rest", "numbers", "pairs", "mine", "yours", "number", "letter", "one"] ["text"] (defScope (top 31)) := ⟨rfl, rfl, rfl, by decide +kernel, rfl, by decide +kernel, by decide +kernel⟩
theorem g_read_letter (D : FunD K "read_letter" "read_letter" (defArgs (top 31)) (defBody (top 31)) (defScope (top 31)) [] [] f fd) (c_need_text : Cal P w K mg base "need_text" 3 ["thing"] [] F_need_text) (q_len : mg "len" = none) (c_needd : Cal P w K mg base "need" 3 ["is_right", "line"] [.int 0] F_need) (c_number_by : Cal P w K mg base "number_by" 1 ["word"] [] F_number_by) (c_pair_by : Cal P w K mg base "pair_by" 2 ["word"] [] F_pair_by) (q_tuple : mg "tuple" = none) (c_is_letter : Cal P w K mg base "is_letter" 4 ["thing"] [] F_is_letter) : GnOk P w K mg base 5 f fd ["text"] F_read_letter := gn_of D z_read_letter fun cdv B outer st G E hg hr => by
  have R : Rdy (cxOf (L2.CX P w) P w K mg base ["text", "who", "words", "word", "rest", "numbers", "pairs", "mine", "yours", "number", "letter", "one"] "read_letter" (defScope (top 31)) f cdv B outer st G E) (fun c d _ H => E c d H) 4 := ⟨takes_of rfl rfl rfl rfl, hg, hr⟩
  exact bv_cons (sv_expr (ev_cal c_need_text R (av_cons (ev_var (i := 0)) (av_nil)))) (bv_cons (sv_asg (ev_split (ev_var (i := 0)) (av_cons (ev_str) (av_nil))) (gv_star (n := 2) (i := 1) rfl (gsv_cons (gv_name (i := 1) z_read_letter.nd) (gsv_star (gv_name (i := 2) z_read_letter.nd) (gsv_nil))))) (bv_cons (sv_expr (ev_cal c_needd R (av_cons (ev_c (c_gt R) (evG_cb b_len q_len bf_len (av_cons (ev_var (i := 2)) (av_nil))) (ev_int)) (av_nil)))) (bv_cons (sv_asg (ev_var (i := 2)) (gv_star (n := 2) (i := 1) rfl (gsv_cons (gv_name (i := 3) z_read_letter.nd) (gsv_star (gv_name (i := 4) z_read_letter.nd) (gsv_nil))))) (bv_cons (sv_setLc (i := 5) (own := [("one", 11)]) rfl z_read_letter.nd (iv_seq (ev_sl (ev_var (i := 4)) ov_none (ov_some (ev_int)))) (blkOk_by (N := ["text", "who", "words", "word", "rest", "numbers", "pairs", "mine", "yours", "number", "letter", "one"]) (sc := defScope (top 31)) (by decide +kernel)) (fun s H C cl fp => gv_name (i := 11) z_read_letter.nd) (fun s H C cl fp => tsv_nil) (fun s H C cl fp => ev_cal c_number_by (Rdy.blk R) (av_cons (ev_var (i := 11)) (av_nil))) rfl) (bv_cons (sv_set (i := 6) (evG_cty b_tuple q_tuple bt_tuple (av_cons (ev_lc (own := [("one", 11)]) rfl z_read_letter.nd (iv_seq (ev_sl (ev_var (i := 4)) (ov_some (ev_int)) ov_none)) (blkOk_by (N := ["text", "who", "words", "word", "rest", "numbers", "pairs", "mine", "yours", "number", "letter", "one"]) (sc := defScope (top 31)) (by decide +kernel)) (fun s H C cl fp => gv_name (i := 11) z_read_letter.nd) (fun s H C cl fp => tsv_nil) (fun s H C cl fp => ev_cal c_pair_by (Rdy.blk R) (av_cons (ev_var (i := 11)) (av_nil)))) (av_nil))) z_read_letter.nd) (bv_cons (sv_expr (ev_cal c_needd R (av_cons (ev_and (ev_c (c_notIn R) (ev_non) (ev_var (i := 5))) (ev_one (ev_c (c_notIn R) (ev_non) (ev_var (i := 6))))) (av_nil)))) (bv_cons (sv_asg (ev_var (i := 5)) (gv_seq (n := 3) rfl (gsv_cons (gv_name (i := 7) z_read_letter.nd) (gsv_cons (gv_name (i := 8) z_read_letter.nd) (gsv_cons (gv_name (i := 9) z_read_letter.nd) (gsv_nil)))))) (bv_cons (sv_set (i := 10) (ev_tup (av_cons (ev_var (i := 1)) (av_cons (ev_var (i := 3)) (av_cons (ev_var (i := 7)) (av_cons (ev_var (i := 8)) (av_cons (ev_var (i := 9)) (av_cons (ev_var (i := 6)) (av_nil)))))))) z_read_letter.nd) (bv_cons (sv_expr (ev_cal c_needd R (av_cons (ev_cal c_is_letter R (av_cons (ev_var (i := 10)) (av_nil))) (av_nil)))) (bv_one (sv_ret (ev_var (i := 10)))))))))))))
noncomputable def d_law (PT : Addr) : DS := sSeq (sAsg (dCall F__law_pen 1 [] (aCons (dVar 0) (aNil))) (gNm 1)) (sSeq (sAsg (dLstO (aCons (dC (.str "")) (aCons (dC (.str " ")) (aCons (dC (.str "a")) (aCons (dC (.str "a ask 1 0 1")) (aCons (dC (.str "a ask 1 0 0")) (aCons (dC (.str "a ask 0 0 1")) (aCons (dC (.str "a ask 1 0 01")) (aCons (dC (.str "a ask 1 0 1 ")) (aNil)))))))))) (gNm 2)) (sSeq (sAsg (dOp addVO (dVar 2) (dLst (aCons (dC (.str "a ask 1 0 1\n")) (aCons (dC (.str "a bye 1 0 0")) (aCons (dC (.str "a bye 1 0 1")) (aCons (dC (.str "a bye 1 0 0 k=1")) (aCons (dC (.str "a Ask 1 0 1")) (aNil)))))))) (gNm 2)) (sSeq (sAsg (dOp addVO (dVar 2) (dLst (aCons (dC (.str "a ask 1 0 1 k=1 k=2")) (aCons (dC (.str "a ask 1 0 1 k")) (aCons (dC (.str "a ask 1 0 1 k=10000")) (aCons (dC (.str "a ask 1 0 1 k==1")) (aCons (dC (.str "a ask 1 0 1 k=")) (aNil)))))))) (gNm 2)) (sSeq (sAsg (dOp addVO (dVar 2) (dLst (aCons (dC (.str "a ask 1 0 1 =1")) (aCons (dC (.str "a ask 1 0 1 k=01")) (aCons (dC (.str "a ask 1 -1 1")) (aCons (dC (.str "a ask 10000000000 0 1")) (aNil))))))) (gNm 2)) (sSeq (sAsg (dOp addVO (dVar 2) (dLst (aCons (dC (.str "a ask 9999999999 0 1")) (aCons (dC (.str "abcdefghi ask 1 0 1")) (aCons (dC (.str "a there 1 2 0")) (aNil)))))) (gNm 2)) (sSeq (sExpr (dMt "list" appendV (dVar 2) (aCons (dOp addV (dC (.str "a ask 1 0 1 ")) (dMt "str" joinV (dC (.str " ")) (aCons (dLc (iStrD (dC (.str "abcdef"))) [9] (gNm 9) (tYesD) (dOp addV (dVar 9) (dC (.str "=1")))) (aNil)))) (aNil)))) (sSeq (sExpr (dMt "list" appendV (dVar 2) (aCons (dOp addV (dC (.str "a ask 1 0 1 ")) (dMt "str" joinV (dC (.str " ")) (aCons (dLc (iStrD (dC (.str "abcdefg"))) [9] (gNm 9) (tYesD) (dOp addV (dVar 9) (dC (.str "=1")))) (aNil)))) (aNil)))) (sSeq (sAsg (dLst (aCons (dC (.str "ask")) (aCons (dC (.str "yes")) (aCons (dC (.str "bye")) (aCons (dC (.str "here")) (aCons (dC (.str "0")) (aCons (dC (.str "1")) (aCons (dC (.str "01")) (aCons (dC (.str "k=1")) (aCons (dC (.str "k=9999")) (aCons (dC (.str "l=10000")) (aCons (dC (.str "a")) (aCons (dC (.str "")) (aCons (dC (.str "k")) (aCons (dC (.str "=")) (aNil)))))))))))))))) (gNm 3)) (sSeq (sAsg (dOp addV (dVar 3) (dLst (aCons (dC (.str "rather")) (aCons (dC (.str "o=0")) (aNil))))) (gNm 3)) (sSeq (sFor (iRg1 (aCons (dC (.int 5)) (aNil))) (gNm 4) (sSeq (sAsg (dCall F_show_letter 1 [] (aCons (dCall F__law_some_letter 1 [] (aCons (dVar 1) (aNil))) (aNil))) (gNm 5)) (sSeq (sExpr (dMt "list" appendV (dVar 2) (aCons (dVar 5) (aNil)))) (sFor (iRg1 (aCons (dC (.int 6)) (aNil))) (gNm 6) (sSeq (sAsg (dOp ixV (dLst (aCons (dCall F__law_sign_bent 3 [] (aCons (dVar 1) (aCons (dVar 5) (aCons (dC (.str "01 =akb")) (aNil))))) (aCons (dCall F__law_word_bent 3 [] (aCons (dVar 1) (aCons (dVar 5) (aCons (dVar 3) (aNil))))) (aNil)))) (dCall F__law_draw 2 [] (aCons (dVar 1) (aCons (dC (.int 2)) (aNil))))) (gNm 7)) (sAsg (dOp addVO (dVar 2) (dLst (aCons (dVar 7) (aCons (dCall F__law_word_bent 3 [] (aCons (dVar 1) (aCons (dVar 7) (aCons (dVar 3) (aNil))))) (aNil))))) (gNm 2))))))) (sSeq (sFor (iSeq (dOp addV (dVar 2) (dSl (dVar 2) none (some (dC (.int 9)))))) (gNm 5) (sIf (asT (dOp neV' (dCB (g1 reprV) (aCons (dLam PT ("law.<locals>.<lambda>" : Str) (lamR 4 d__law_refusal) (dCall F_read_letter 1 [] (aCons (dVar 5) (aNil)))) (aNil))) (dCB (g1 reprV) (aCons (dCall F__law_due 1 [] (aCons (dVar 5) (aNil))) (aNil))))) (sRet (dC (.bl false))) (sNext))) (sSeq (sFor (iSeq (dLst (aCons (dC .non) (aCons (dC (.bl true)) (aCons (dC (.int 0)) (aCons (dLst (aNil)) (aCons (dLst (aCons (dC (.str "a")) (aNil))) (aCons (dTup (aCons (dC (.str "a")) (aCons (dC (.str "ask")) (aCons (dC (.int 1)) (aCons (dC (.int 0)) (aCons (dC (.int 1)) (aCons (dTup (aNil)) (aNil)))))))) (aCons (dDic0) (aNil)))))))))) (gNm 8) (sIf (asT (dOp neV' (dLam PT ("law.<locals>.<lambda>" : Str) (lamR 4 d__law_refusal) (dCall F_read_letter 1 [] (aCons (dVar 8) (aNil)))) (dTup (aCons (dC .non) (aNil))))) (sRet (dC (.bl false))) (sNext))) (sRet (dC (.bl true)))))))))))))))
noncomputable def F_law (PT : Addr) : Fn := body 10 (d_law PT)
theorem z_law : FnScope ["_law_script", "_law_pen_here", "_law_some", "_law_words", "_law_turn", "_law_text", "_law_k", "_law_bent", "_law_thing", "_law_kind"] ["_law_script"] (defScope (top 48)) := ⟨rfl, rfl, rfl, by decide +kernel, rfl, by decide +kernel, by decide +kernel⟩
theorem g_law {cT PT : Addr} {g__law_refusal_a : Addr} {g__law_refusal_fd : FuncData} (D : FunD K "law" "law" (defArgs (top 48)) (defBody (top 48)) (defScope (top 48)) [] [] f fd) (c__law_pen : Cal P w K mg base "_law_pen" 1 ["_law_script"] [] F__law_pen) (q_range : mg "range" = none) (c__law_some_letter : Cal P w K mg base "_law_some_letter" 4 ["_law_pen_here"] [] F__law_some_letter) (c_show_letter : Cal P w K mg base "show_letter" 1 ["letter"] [] F_show_letter) (c__law_word_bent : Cal P w K mg base "_law_word_bent" 2 ["_law_pen_here", "_law_text", "_law_others"] [] F__law_word_bent) (c__law_sign_bent : Cal P w K mg base "_law_sign_bent" 2 ["_law_pen_here", "_law_text", "_law_likely"] [] F__law_sign_bent) (c__law_draw : Cal P w K mg base "_law_draw" 1 ["_law_pen_here", "_law_many"] [] F__law_draw) (c_read_letter : Cal P w K mg base "read_letter" 5 ["text"] [] F_read_letter) (D__law_refusal : FunD K "_law_refusal" "_law_refusal" (defArgs (top 44)) (defBody (top 44)) (defScope (top 44)) [] [] g__law_refusal_a g__law_refusal_fd) (b__law_refusal : Binds K g__law_refusal_fd ["_law_ask"] []) (m__law_refusal : mg "_law_refusal" = some (.ref g__law_refusal_a)) (x_WishError : ∀ y b, tblE [("NoText", true)] y = some b → PySem.W.exmOne K (.ref (He.ga K y)) (.ref (He.ga K "WishError")) = some b) (m_WishError : mg "WishError" = some (.ref (He.ga K "WishError"))) (M_isx : IsxOk K (tblM [("NoText", "NoDeed", false), ("NoText", "NoLine", false), ("NoText", "NoSaved", false), ("NoText", "NoTalk", false), ("NoText", "NotClosed", false), ("NoText", "NotOpen", false), ("NoText", "TooMany", false), ("NoText", "NoText", true)] [("NoText", "ValueError", true)])) (m_TooMany : mg "TooMany" = some (.ref (He.ga K "TooMany"))) (m_NotOpen : mg "NotOpen" = some (.ref (He.ga K "NotOpen"))) (m_NotClosed : mg "NotClosed" = some (.ref (He.ga K "NotClosed"))) (m_NoTalk : mg "NoTalk" = some (.ref (He.ga K "NoTalk"))) (m_NoSaved : mg "NoSaved" = some (.ref (He.ga K "NoSaved"))) (m_NoLine : mg "NoLine" = some (.ref (He.ga K "NoLine"))) (m_NoDeed : mg "NoDeed" = some (.ref (He.ga K "NoDeed"))) (q_isinstance : mg "isinstance" = none) (m_NoText : mg "NoText" = some (.ref (He.ga K "NoText"))) (q_ValueError : mg "ValueError" = none) (f_line : ∀ c ∈ (["NoText"] : List Str), ExcK K (He.ga K c) ∧ PySem.W.findIn K (.ref (He.ga K c)) "line" = some none) (TB : LamX.TabB base mg cT PT) (q_repr : mg "repr" = none) (c__law_due : Cal P w K mg base "_law_due" 2 ["_law_text"] [] F__law_due) (hcode : fd.code = .ref cT) : GnOk P w K mg base 8 f fd ["_law_script"] (F_law PT) := gn_ofC D z_law fun cdv B outer st G E hcv hg hr => by
  have hcd : cdv = .ref cT := hcv.symm.trans hcode
  have R : Rdy (cxOf (L2.CX P w) P w K mg base ["_law_script", "_law_pen_here", "_law_some", "_law_words", "_law_turn", "_law_text", "_law_k", "_law_bent", "_law_thing", "_law_kind"] "law" (defScope (top 48)) f cdv B outer st G E) (fun c d _ H => E c d H) 7 := ⟨takes_of rfl rfl rfl rfl, hg, hr⟩
  exact bv_cons (sv_set (i := 1) (ev_cal c__law_pen R (av_cons (ev_var (i := 0)) (av_nil))) z_law.nd) (bv_cons (sv_set (i := 2) (ev_lstO (av_cons (ev_str) (av_cons (ev_str) (av_cons (ev_str) (av_cons (ev_str) (av_cons (ev_str) (av_cons (ev_str) (av_cons (ev_str) (av_cons (ev_str) (av_nil)))))))))) z_law.nd) (bv_cons (sv_set (i := 2) (ev_addO (ev_var (i := 2)) (ev_lst (av_cons (ev_str) (av_cons (ev_str) (av_cons (ev_str) (av_cons (ev_str) (av_cons (ev_str) (av_nil)))))))) z_law.nd) (bv_cons (sv_set (i := 2) (ev_addO (ev_var (i := 2)) (ev_lst (av_cons (ev_str) (av_cons (ev_str) (av_cons (ev_str) (av_cons (ev_str) (av_cons (ev_str) (av_nil)))))))) z_law.nd) (bv_cons (sv_set (i := 2) (ev_addO (ev_var (i := 2)) (ev_lst (av_cons (ev_str) (av_cons (ev_str) (av_cons (ev_str) (av_cons (ev_str) (av_nil))))))) z_law.nd) (bv_cons (sv_set (i := 2) (ev_addO (ev_var (i := 2)) (ev_lst (av_cons (ev_str) (av_cons (ev_str) (av_cons (ev_str) (av_nil)))))) z_law.nd) (bv_cons (sv_expr (ev_append (ev_var (i := 2)) (av_cons (ev_add (ev_str) (ev_join (ev_str) (av_cons (ev_lc (own := [("_law_kind", 9)]) rfl z_law.nd (iv_str (ev_str)) (blkOk_by (N := ["_law_script", "_law_pen_here", "_law_some", "_law_words", "_law_turn", "_law_text", "_law_k", "_law_bent", "_law_thing", "_law_kind"]) (sc := defScope (top 48)) (by decide +kernel)) (fun s H C cl fp => gv_name (i := 9) z_law.nd) (fun s H C cl fp => tsv_nil) (fun s H C cl fp => ev_add (ev_var (i := 9)) (ev_str))) (av_nil)))) (av_nil)))) (bv_cons (sv_expr (ev_append (ev_var (i := 2)) (av_cons (ev_add (ev_str) (ev_join (ev_str) (av_cons (ev_lc (own := [("_law_kind", 9)]) rfl z_law.nd (iv_str (ev_str)) (blkOk_by (N := ["_law_script", "_law_pen_here", "_law_some", "_law_words", "_law_turn", "_law_text", "_law_k", "_law_bent", "_law_thing", "_law_kind"]) (sc := defScope (top 48)) (by decide +kernel)) (fun s H C cl fp => gv_name (i := 9) z_law.nd) (fun s H C cl fp => tsv_nil) (fun s H C cl fp => ev_add (ev_var (i := 9)) (ev_str))) (av_nil)))) (av_nil)))) (bv_cons (sv_set (i := 3) (ev_lst (av_cons (ev_str) (av_cons (ev_str) (av_cons (ev_str) (av_cons (ev_str) (av_cons (ev_str) (av_cons (ev_str) (av_cons (ev_str) (av_cons (ev_str) (av_cons (ev_str) (av_cons (ev_str) (av_cons (ev_str) (av_cons (ev_str) (av_cons (ev_str) (av_cons (ev_str) (av_nil)))))))))))))))) z_law.nd) (bv_cons (sv_set (i := 3) (ev_add (ev_var (i := 3)) (ev_lst (av_cons (ev_str) (av_cons (ev_str) (av_nil))))) z_law.nd) (bv_cons (sv_for (passes_of rfl) rfl (iv_rng1 rfl q_range (av_cons (ev_int) (av_nil))) (gv_name (i := 4) z_law.nd) (bv_cons (sv_set (i := 5) (ev_cal c_show_letter R (av_cons (ev_cal c__law_some_letter R (av_cons (ev_var (i := 1)) (av_nil))) (av_nil))) z_law.nd) (bv_cons (sv_expr (ev_append (ev_var (i := 2)) (av_cons (ev_var (i := 5)) (av_nil)))) (bv_one (sv_for (passes_of rfl) rfl (iv_rng1 rfl q_range (av_cons (ev_int) (av_nil))) (gv_name (i := 6) z_law.nd) (bv_cons (sv_set (i := 7) (ev_ix R (ev_lst (av_cons (ev_cal c__law_sign_bent R (av_cons (ev_var (i := 1)) (av_cons (ev_var (i := 5)) (av_cons (ev_str) (av_nil))))) (av_cons (ev_cal c__law_word_bent R (av_cons (ev_var (i := 1)) (av_cons (ev_var (i := 5)) (av_cons (ev_var (i := 3)) (av_nil))))) (av_nil)))) (ev_cal c__law_draw R (av_cons (ev_var (i := 1)) (av_cons (ev_int) (av_nil))))) z_law.nd) (bv_one (sv_set (i := 2) (ev_addO (ev_var (i := 2)) (ev_lst (av_cons (ev_var (i := 7)) (av_cons (ev_cal c__law_word_bent R (av_cons (ev_var (i := 1)) (av_cons (ev_var (i := 7)) (av_cons (ev_var (i := 3)) (av_nil))))) (av_nil))))) z_law.nd)))))))) (bv_cons (sv_for (passes_of rfl) rfl (iv_seq (ev_add (ev_var (i := 2)) (ev_sl (ev_var (i := 2)) ov_none (ov_some (ev_int))))) (gv_name (i := 5) z_law.nd) (bv_one (sv_if (tv_c (c_ne R) (evG_cb (b_repr R) q_repr bf_repr (av_cons (ev_lam (k := 5) D__law_refusal b__law_refusal m__law_refusal z__law_refusal (g__law_refusal x_WishError m_WishError M_isx m_TooMany m_NotOpen m_NotClosed m_NoTalk m_NoSaved m_NoLine m_NoDeed q_isinstance m_NoText q_ValueError f_line) lamR_ok TB hcd R (by decide) (LamX.lamS_by (by rfl)) (fun _ _ _ _ _ _ _ hr2 hg2 => ev_lamB hr2 hg2 fun RL => ev_cal c_read_letter RL (av_cons (ev_var (i := 5)) (av_nil)))) (av_nil))) (evG_cb (b_repr R) q_repr bf_repr (av_cons (ev_cal c__law_due R (av_cons (ev_var (i := 5)) (av_nil))) (av_nil)))) (bv_one (sv_ret (ev_bl))) (bv_nil)))) (bv_cons (sv_for (passes_of rfl) rfl (iv_seq (ev_lst (av_cons (ev_non) (av_cons (ev_bl) (av_cons (ev_int) (av_cons (ev_lst (av_nil)) (av_cons (ev_lst (av_cons (ev_str) (av_nil))) (av_cons (ev_tup (av_cons (ev_str) (av_cons (ev_str) (av_cons (ev_int) (av_cons (ev_int) (av_cons (ev_int) (av_cons (ev_tup (av_nil)) (av_nil)))))))) (av_cons (ev_dic0) (av_nil)))))))))) (gv_name (i := 8) z_law.nd) (bv_one (sv_if (tv_c (c_ne R) (ev_lam (k := 5) D__law_refusal b__law_refusal m__law_refusal z__law_refusal (g__law_refusal x_WishError m_WishError M_isx m_TooMany m_NotOpen m_NotClosed m_NoTalk m_NoSaved m_NoLine m_NoDeed q_isinstance m_NoText q_ValueError f_line) lamR_ok TB hcd R (by decide) (LamX.lamS_by (by rfl)) (fun _ _ _ _ _ _ _ hr2 hg2 => ev_lamB hr2 hg2 fun RL => ev_cal c_read_letter RL (av_cons (ev_var (i := 8)) (av_nil)))) (ev_tup (av_cons (ev_non) (av_nil)))) (bv_one (sv_ret (ev_bl))) (bv_nil)))) (bv_one (sv_ret (ev_bl)))))))))))))))
end
end Cw

set_option maxRecDepth 100000
set_option maxHeartbeats 2000000
set_option linter.all false
/-! k79: what is drawn. -/
namespace Cw
open PySem PySem.Spec PyProof.Rows L2
theorem draw {S : Sto} {cs : List Int} {a l m : Int} {p : Nat} (hS : S[p]? = some (pen cs a l)) (ha : 0 ≤ a ∧ a ≤ 1048576) (hl : 0 ≤ l) (hm : 0 < m ∧ m ≤ 20000000) :
    ∃ d a' l', F__law_draw [.ref p, .int m] S = some (.ok (.int d) (S.set p (pen cs a' l'))) ∧ 0 ≤ d ∧ d < m ∧ a ≤ a' ∧ a' ≤ a + 1 ∧ 0 ≤ l' := by
  have hm2 : 0 < m ∧ m < 1073741824 := ⟨hm.1, by omega⟩
  by_cases h0 : 0 < l
  · refine ⟨l % m, a, l / m, ?_, Int.emod_nonneg _ (by omega), Int.emod_lt_of_pos _ hm.1, Int.le_refl _, by omega, Int.ediv_nonneg hl (by omega)⟩
    simp [F__law_draw, d__law_draw, body, g1, g2, ixp_left hS, setp_left hS, h0, mod_ii hm.1, div_ii hm2]
  · have hl0 : l = 0 := by omega
    subst hl0
    have hS1 := atp_set hS (pen cs (a + 1) 0)
    have m1 : ∀ S, mulV (.int 1951) (.int a) S = some (.int (1951 * a), S) := fun S => mul_ii (.inl (by decide))
    have m2 : ∀ S, mulV (.int 70997) (.int a) S = some (.int (70997 * a), S) := fun S => mul_ii (.inl (by decide))
    have m3 : ∀ S, mulV (.int 85009) (.int a) S = some (.int (85009 * a), S) := fun S => mul_ii (.inl (by decide))
    have m4 : ∀ S, mulV (.int (85009 * a)) (.int a) S = some (.int (85009 * a * a), S) := fun S => mul_ii (.inr (by unfold midI; omega))
    have m5 : ∀ (x : Int) S, mulV (.int x) (.int (a + 65539)) S = some (.int (x * (a + 65539)), S) := fun x S => mul_ii (.inr (by unfold midI; omega))
    have m6 : ∀ (x : Int) S, mulV (.int 2) (.int x) S = some (.int (2 * x), S) := fun x S => mul_ii (.inl (by decide))
    have p1 : ∀ (x : Int) S, 0 ≤ x → x < 2147483563 → powV (.int (x + 70997 * a + 79)) (.int 5) S = some (.int ((x + 70997 * a + 79) ^ 5), S) := fun x S h1 h2 => pow_ii ⟨by decide, by decide, by omega⟩
    have p2 : ∀ (x : Int) S, 0 ≤ x → x < 2147483647 → powV (.int (x * (a + 65539) + 85009 * a * a)) (.int 3) S = some (.int ((x * (a + 65539) + 85009 * a * a) ^ 3), S) := fun x S h1 h2 => pow_ii ⟨by decide, by decide, by
      have z1 : x * (a + 65539) ≤ 2147483647 * 1114115 := Int.mul_le_mul (by omega) (by omega) (by omega) (by omega)
      have z2 : 0 ≤ x * (a + 65539) := Int.mul_nonneg h1 (by omega)
      have z3 : 85009 * a * a ≤ 85009 * 1048576 * 1048576 := Int.mul_le_mul (by omega) (by omega) (by omega) (by omega)
      have z4 : 0 ≤ 85009 * a * a := Int.mul_nonneg (by omega) (by omega)
      omega⟩
    have p3 : ∀ S, powV (.int 10) (.int 18) S = some (.int (10 ^ 18), S) := fun S => pow_ii (by decide)
    have q1 : ∀ (x : Int) S, modV (.int x) (.int 2147483563) S = some (.int (x % 2147483563), S) := fun x S => mod_ii (by decide)
    have q2 : ∀ (x : Int) S, modV (.int x) (.int 2147483647) S = some (.int (x % 2147483647), S) := fun x S => mod_ii (by decide)
    have q3 : ∀ (x : Int) S, modV (.int x) (.int 2147483399) S = some (.int (x % 2147483399), S) := fun x S => mod_ii (by decide)
    have q4 : ∀ (x : Int) S, divV (.int x) (.int 32) S = some (.int (x / 32), S) := fun x S => div_ii (by decide)
    have r1 : ∀ x : Int, 0 ≤ x % 2147483563 ∧ x % 2147483563 < 2147483563 := fun x => ⟨Int.emod_nonneg _ (by decide), Int.emod_lt_of_pos _ (by decide)⟩
    have r2 : ∀ x : Int, 0 ≤ x % 2147483647 ∧ x % 2147483647 < 2147483647 := fun x => ⟨Int.emod_nonneg _ (by decide), Int.emod_lt_of_pos _ (by decide)⟩
    have nn : ∀ S, neV' (.lst (cs.map D.int)) (.lst []) S = some (.bl (!decide (cs.map D.int = [])), S) := fun S => ne_nil rfl (shDs_ints _ _)
    by_cases hc : cs = []
    · have nf : ∀ S, neV' (.lst (cs.map D.int)) (.lst []) S = some (.bl false, S) := fun S => by rw [nn S, hc]; rfl
      have lf : ¬ a < (cs.length : Int) := by rw [hc]; simp; exact ha.1
      refine ⟨mix a (1951 * a + 701) m, a + 1, 0, ?_, (mix_lt hm.1).1, (mix_lt hm.1).2, by omega, by omega, by omega⟩
      simp [F__law_draw, d__law_draw, body, g1, g2, ixp_left hS, ixp_at hS, setp_at hS, ixp_cells hS1, m1, m2, m3, m4, m5, p1, p2, q1, q2, q3, q4, r1, r2, nf, lf, mod_ii hm.1, mix]
    · have nt : ∀ S, neV' (.lst (cs.map D.int)) (.lst []) S = some (.bl true, S) := fun S => by rw [nn S, decide_eq_false (by simpa using hc)]; rfl
      have lp : 0 < cs.length := List.length_pos_iff.mpr hc
      have q5 : ∀ (x : Int) S, modV (.int x) (.int (cs.length : Int)) S = some (.int (x % (cs.length : Int)), S) := fun x S => mod_ii (by omega)
      have q6 : ∀ S, ixV (.lst (cs.map .int)) (.int (a % (cs.length : Int))) S = some (.int (cs.getD (a % (cs.length : Int)).toNat 0), S) := fun S => ixl (Int.emod_nonneg _ (by omega)) (Int.emod_lt_of_pos _ (by omega))
      generalize cs.getD (a % (cs.length : Int)).toNat 0 = cell at q6
      by_cases hb : a < (cs.length : Int) ∧ 10 ^ 18 ≤ (if cell < 0 then -cell else cell)
      · refine ⟨(2 * (if cell < 0 then -cell else cell) + (if cell < 0 then 1 else 0)) % m, a + 1, (2 * (if cell < 0 then -cell else cell) + (if cell < 0 then 1 else 0)) / m, ?_, Int.emod_nonneg _ (by omega), Int.emod_lt_of_pos _ hm.1, by omega, by omega, Int.ediv_nonneg (by split <;> omega) (by omega)⟩
        have hb2 : (1000000000000000000 : Int) ≤ (if cell < 0 then -cell else cell) := hb.2
        simp [F__law_draw, d__law_draw, body, g1, g2, ixp_left hS, ixp_at hS, setp_at hS, ixp_cells hS1, m1, m2, m3, m4, m5, m6, p1, p2, p3, q1, q2, q3, q4, q5, q6, r1, r2, nt, hb.1, hb2, mod_ii hm.1, div_ii hm2, setp_left hS1]
      · refine ⟨mix a cell m, a + 1, 0, ?_, (mix_lt hm.1).1, (mix_lt hm.1).2, by omega, by omega, by omega⟩
        by_cases hb1 : a < (cs.length : Int)
        · have hb2 : ¬ (1000000000000000000 : Int) ≤ (if cell < 0 then -cell else cell) := fun z => hb ⟨hb1, z⟩
          simp [F__law_draw, d__law_draw, body, g1, g2, ixp_left hS, ixp_at hS, setp_at hS, ixp_cells hS1, m1, m2, m3, m4, m5, m6, p1, p2, p3, q1, q2, q3, q4, q5, q6, r1, r2, nt, hb1, hb2, mod_ii hm.1, mix]
        · simp [F__law_draw, d__law_draw, body, g1, g2, ixp_left hS, ixp_at hS, setp_at hS, ixp_cells hS1, m1, m2, m3, m4, m5, m6, p1, p2, p3, q1, q2, q3, q4, q5, q6, r1, r2, nt, hb1, mod_ii hm.1, mix]
theorem drawP {m : Nat} {tb o : Ob} {T : Sto} {k : Int} (h : PenOk m o) (hm : m < 1048576) (hk : 0 < k ∧ k ≤ 1048576) :
    ∃ d o', F__law_draw [.ref 1, .int k] (tb :: o :: T) = some (.ok (.int d) (tb :: o' :: T)) ∧ 0 ≤ d ∧ d < k ∧ PenOk (m + 1) o' := by
  obtain ⟨cs, a, l, h1, h2, h3, h4⟩ := h
  subst h1
  obtain ⟨d, a', l', e, d1, d2, d3, d4, d5⟩ := draw (S := tb :: pen cs a l :: T) (p := 1) rfl ⟨h2, by omega⟩ h4 ⟨hk.1, by omega⟩
  exact ⟨d, _, e, d1, d2, cs, a', l', rfl, by omega, by omega, d5⟩
/-- a number drawn, as a place -/
theorem drawN {m n : Nat} {tb o : Ob} {T : Sto} (h : PenOk m o) (hm : m < 1048576) (hn : 0 < n) (hn2 : n ≤ 1048576) :
    ∃ (d : Nat) (o' : Ob), F__law_draw [.ref 1, .int n] (tb :: o :: T) = some (.ok (.int d) (tb :: o' :: T)) ∧ d < n ∧ PenOk (m + 1) o' := by
  obtain ⟨d, o', e, d1, d2, p⟩ := drawP (tb := tb) (T := T) h hm (k := n) ⟨by omega, by omega⟩
  refine ⟨d.toNat, o', ?_, by omega, p⟩
  rw [e]
  have : ((d.toNat : Nat) : Int) = d := by omega
  rw [this]
end Cw

set_option maxRecDepth 100000
set_option maxHeartbeats 2000000
set_option linter.all false
/-! k79: letters drawn. -/
namespace Cw
open PySem PySem.Spec PyProof.Rows L2
section
variable {tb o A B : Ob} {T R : Sto}
theorem tat2 : (tb :: o :: (T ++ A :: B :: R))[T.length + 3]? = some B := by
  rw [show T.length + 3 = (T.length + 2) + 1 by omega, List.getElem?_cons_succ]
  exact at2
theorem tset2 {X : Ob} : (tb :: o :: (T ++ A :: B :: R)).set (T.length + 3) X = tb :: o :: (T ++ A :: X :: R) := by
  rw [show T.length + 3 = (T.length + 2) + 1 by omega, List.set_cons_succ, set2]
end
noncomputable abbrev kElt : DE := dMt "list" popV (dVar 2) (aCons (dCall F__law_draw 2 [] (aCons (dVar 0) (aCons (dCB (g1 len1) (aCons (dVar 2) (aNil))) (aNil)))) (aNil))
theorem k_turn {m : Nat} {tb o A : Ob} {T : Sto} {l : List Str} {x y : Option D} (hp : PenOk m o) (hm : m + 1 ≤ 1048576) (hl : 0 < l.length) (hl2 : l.length ≤ 100) :
    ∃ (o' : Ob) (s : Str) (l' : List Str), kElt [some (.ref 1), x, some (.ref (T.length + 3)), y] (tb :: o :: (T ++ [A, .lst (l.map .str)])) = some (.ok (.str s) (tb :: o' :: (T ++ [A, .lst (l'.map .str)]))) ∧ PenOk (m + 1) o' ∧ (s :: l').Perm l := by
  obtain ⟨d, o1, e1, a1, b1, p1⟩ := drawP (tb := tb) (T := T ++ [A, .lst (l.map .str)]) (k := l.length) hp (by omega) (by omega)
  have hd : d.toNat < l.length := by omega
  refine ⟨o1, l[d.toNat], l.eraseIdx d.toNat, ?_, p1, perm_erase hd⟩
  have t2 := ty_ref (tat2 (tb := tb) (o := o) (T := T) (A := A) (B := .lst (l.map .str)) (R := []))
  have n2 := len_ref (tat2 (tb := tb) (o := o) (T := T) (A := A) (B := .lst (l.map .str)) (R := []))
  have w2 := pop_ref (i := d) (tat2 (tb := tb) (o := o1) (T := T) (A := A) (B := .lst (l.map .str)) (R := [])) a1 (by simp; omega) (by simp; omega)
  rw [tset2, getD_map D.str hd, erase_map] at w2
  simp [kElt, g1, t2, n2, e1, w2]
theorem k_loop {tb A : Ob} {T : Sto} {x y : Option D} : ∀ (ds : List D) {m : Nat} {o : Ob} {l acc : List Str}, PenOk m o → m + ds.length ≤ 1048576 → ds.length ≤ l.length → l.length ≤ 100 → acc.length + ds.length ≤ 100 →
    ∃ (o' : Ob) (l' ks : List Str), lcD [3] (gNm 3) tYesD kElt ds [some (.ref 1), x, some (.ref (T.length + 3)), y] (tb :: o :: (T ++ [A, .lst (l.map .str)])) (acc.map .str) = some (.ok (ks.map .str) (tb :: o' :: (T ++ [A, .lst (l'.map .str)]))) ∧
      PenOk (m + ds.length) o' ∧ (l' ++ ks).Perm (l ++ acc) ∧ ks.length = acc.length + ds.length
  | [], m, o, l, acc, hp, hm, h1, h2, h3 => ⟨o, l, acc, rfl, hp, List.Perm.refl _, rfl⟩
  | d :: ds, m, o, l, acc, hp, hm, h1, h2, h3 => by
    rw [List.length_cons] at hm h1 h3
    obtain ⟨o1, s, l1, e1, p1, q1⟩ := k_turn (tb := tb) (A := A) (T := T) (x := x) (y := some d) hp (by omega) (by omega) h2
    have len1 : l1.length + 1 = l.length := by simpa using q1.length_eq
    obtain ⟨o2, l2, ks, e2, p2, q2, n2⟩ := k_loop (tb := tb) (A := A) (T := T) (x := x) (y := y) ds (l := l1) (acc := acc ++ [s]) p1 (by omega) (by omega) (by omega) (by simp; omega)
    refine ⟨o2, l2, ks, ?_, p2.mono (by rw [List.length_cons]; omega), q2.trans ?_, by rw [n2]; simp; omega⟩
    · rw [lc_nm, show ((wipeD [some (.ref 1), x, some (.ref (T.length + 3)), y] [3]).set 3 (some d)) = [some (.ref 1), x, some (.ref (T.length + 3)), some d] from rfl, e1, bndL_ok, if_pos (by simp [big_eq]; omega)]
      rw [List.map_append] at e2
      exact e2
    · have z : (l1 ++ (acc ++ [s])).Perm (s :: l1 ++ acc) := by
        rw [← List.append_assoc]
        exact List.perm_append_singleton s (l1 ++ acc)
      exact z.trans (q1.append_right acc)
theorem kinds {m : Nat} {tb o : Ob} {T : Sto} {k : Int} (hp : PenOk m o) (hm : m + 10 ≤ 1048576) (hk : 0 ≤ k ∧ k ≤ 8) :
    ∃ (ks : List Str) (o' : Ob), F__law_kinds [.ref 1, .int k] (tb :: o :: T) = some (.ok (.lst (ks.map .str)) (tb :: o' :: T)) ∧ PenOk (m + 10) o' ∧ ks.Nodup ∧ (∀ s ∈ ks, s ∈ NAMES ∧ s ≠ "qq") ∧ ks.length = k.toNat := by
  let l0 : List Str := ["a", "aa", "b", "ba", "c", "k", "l", "o", "zz", "zzzzzzzz", "m", "ma", "bounds", "wishes", "must", "if", "wish", "open", "to"]
  have hd : (upto 0 k.toNat).length = k.toNat := upto_len _ _
  obtain ⟨o2, l2, ks, e2, p2, q2, n2⟩ := k_loop (tb := tb) (A := .lst ((l0.take 16).map .str)) (T := T) (x := some (.int k)) (y := none) (upto 0 k.toNat) (l := l0) (acc := []) hp (by omega) (by rw [hd]; show k.toNat ≤ 19; omega) (by decide) (by rw [hd]; show 0 + k.toNat ≤ 100; omega)
  rw [List.append_nil] at q2
  have nd : (l2 ++ ks).Nodup := q2.nodup_iff.mpr (by decide +kernel)
  refine ⟨ks, o2, ?_, p2.mono (by omega), (List.nodup_append.mp nd).2.1, fun s hs => ?_, by rw [n2, hd]; show 0 + k.toNat = k.toNat; omega⟩
  · refine cut_t (X := [.lst ((l0.take 16).map .str), .lst (l2.map .str)]) ?_ (lowDs_strs _ _) p2.low
    have hs : isSmall k := by unfold isSmall; omega
    have c1 : ∀ ds : List D, lstOf (tb :: o :: (T ++ [Ob.lst ds])) (.ref (T.length + 2)) = some ds := fun ds => by
      unfold lstOf
      simp only [tat1]
    simp only [l0, List.map_cons, List.map_nil, List.take, List.take_succ_cons] at e2 ⊢
    simp [body, d__law_kinds, g1, iRg1, big_eq, rng1, hs, two, addVO, c1, lstOf, dLc]
    rw [e2]
    simp
  · have key : ∀ s ∈ l0, s ∈ NAMES ∧ s ≠ "qq" := by decide +kernel
    exact key s (q2.mem_iff.mp (List.mem_append_right _ hs))

end Cw

set_option maxRecDepth 100000
set_option maxHeartbeats 2000000
set_option linter.all false
/-! k79: a letter drawn, shown. -/
namespace Cw
open PySem PySem.Spec PyProof.Rows L2
theorem ixi {cs : List Int} {S : Sto} {d : Nat} (h : d < cs.length) : ixV (.lst (cs.map .int)) (.int d) S = some (.int (cs.getD d 0), S) := by
  have z := ixl (cs := cs) (S := S) (i := d) (by omega) (by omega)
  rw [Int.toNat_natCast] at z
  exact z
theorem ixs {cs : List Str} {S : Sto} {d : Nat} (h : d < cs.length) : ixV (.lst (cs.map .str)) (.int d) S = some (.str (cs.getD d Str.empty), S) := by
  have z := ix_lst (ds := cs.map D.str) (S := S) (i := d) (by omega) (by rw [List.length_map]; omega)
  rw [Int.toNat_natCast, getD_map D.str h] at z
  rw [z, List.getD_eq_getElem?_getD, List.getElem?_eq_getElem h]
  rfl
theorem getD_mem {α : Type} {l : List α} {d : Nat} {x : α} (h : d < l.length) : l.getD d x ∈ l := by
  rw [List.getD_eq_getElem?_getD, List.getElem?_eq_getElem h]
  exact List.getElem_mem h
theorem pow9 (S : Sto) : powV (.int 10) (.int 9) S = some (.int 1000000000, S) := pow_ii (i := 10) (j := 9) (by decide)
theorem pow7 (S : Sto) : powV (.int 10) (.int 7) S = some (.int 10000000, S) := pow_ii (i := 10) (j := 7) (by decide)
theorem number {m : Nat} {tb o : Ob} {T : Sto} (hp : PenOk m o) (hm : m + 3 ≤ 10000) :
    ∃ (i : Int) (o' : Ob), F__law_number [.ref 1] (tb :: o :: T) = some (.ok (.int i) (tb :: o' :: T)) ∧ okN i ∧ PenOk (m + 3) o' := by
  obtain ⟨a, o1, e1, a1, b1, p1⟩ := drawP (tb := tb) (T := T) (k := 12) hp (by omega) (by omega)
  have big7 : ∃ (d : Int) (o' : Ob), F__law_draw [.ref 1, .int 10000000] (tb :: o1 :: T) = some (.ok (.int d) (tb :: o' :: T)) ∧ 0 ≤ d ∧ d < 10000000 ∧ PenOk (m + 1 + 1) o' := by
    obtain ⟨cs, x, l, h1, h2, h3, h4⟩ := p1
    subst h1
    obtain ⟨d, a', l', e, d1, d2, d3, d4, d5⟩ := draw (S := tb :: pen cs x l :: T) (p := 1) rfl ⟨h2, by omega⟩ h4 (m := 10000000) (by omega)
    exact ⟨d, _, e, d1, d2, cs, a', l', rfl, by omega, by omega, d5⟩
  obtain ⟨b, o2, e2, a2, b2, p2⟩ := big7
  obtain ⟨d, o3, e3, l3, p3⟩ := drawN (tb := tb) (T := T) (n := 10) p2 (by omega) (by omega) (by omega)
  let L : List Int := [1, 2, 9, 10, 99, 100, 9999999999, 1000000000, a, b]
  have x := ixi (cs := L) (S := tb :: o3 :: T) (d := d) l3
  refine ⟨L.getD d 0, o3, ?_, ?_, p3⟩
  · have e3' : F__law_draw [.ref 1, .int 10] (tb :: o2 :: T) = some (.ok (.int (d : Int)) (tb :: o3 :: T)) := e3
    simp only [L, List.map_cons, List.map_nil] at x
    simp [F__law_number, body, d__law_number, pow9, pow7, e1, e2, e3', big_eq]
    rw [x]
    rfl
  · have hm : L.getD d 0 ∈ L := getD_mem l3
    have key : ∀ i ∈ L, okN i := fun i hi => by
      simp only [L, List.mem_cons, List.not_mem_nil, or_false] at hi
      unfold okN
      rcases hi with e | e | e | e | e | e | e | e | e | e <;> subst e <;> omega
    exact key _ hm
def pairD (p : Str × Int) : D := .tup [.str p.1, .int p.2]
def okP (p : Str × Int) : Prop := p.1 ∈ NAMES ∧ okI p.2
noncomputable abbrev pElt : DE := dTup (aCons (dVar 3) (aCons (dOp ixV (dLst (aCons (dC (.int 0)) (aCons (dC (.int 9999)) (aCons (dCall F__law_draw 2 [] (aCons (dVar 0) (aCons (dC (.int 10000)) (aNil)))) (aNil))))) (dCall F__law_draw 2 [] (aCons (dVar 0) (aCons (dC (.int 3)) (aNil))))) (aNil)))
theorem p_loop {tb : Ob} {T : Sto} {x y z : Option D} : ∀ (ks : List Str) {m : Nat} {o : Ob} {acc : List (Str × Int)}, PenOk m o → m + 2 * ks.length ≤ 10000 → (∀ k ∈ ks, k ∈ NAMES) → (∀ p ∈ acc, okP p) → acc.length + ks.length ≤ 100 →
    ∃ (o' : Ob) (ps : List (Str × Int)), lcD [3] (gNm 3) tYesD pElt (ks.map .str) [some (.ref 1), x, y, z] (tb :: o :: T) (acc.map pairD) = some (.ok (ps.map pairD) (tb :: o' :: T)) ∧ PenOk (m + 2 * ks.length) o' ∧ (∀ p ∈ ps, okP p) ∧ ps.length = acc.length + ks.length
  | [], m, o, acc, hp, hm, hk, ha, hl => ⟨o, acc, rfl, hp, ha, rfl⟩
  | k :: ks, m, o, acc, hp, hm, hk, ha, hl => by
    rw [List.length_cons] at hm hl
    obtain ⟨a, o1, e1, a1, b1, p1⟩ := drawP (tb := tb) (T := T) (k := 10000) hp (by omega) (by omega)
    obtain ⟨d, o2, e2, l2, p2⟩ := drawN (tb := tb) (T := T) (n := 3) p1 (by omega) (by omega) (by omega)
    let L : List Int := [0, 9999, a]
    have xx := ixi (cs := L) (S := tb :: o2 :: T) (d := d) l2
    have hv : okI (L.getD d 0) := by
      have hm : L.getD d 0 ∈ L := getD_mem l2
      have key : ∀ i ∈ L, okI i := fun i hi => by
        simp only [L, List.mem_cons, List.not_mem_nil, or_false] at hi
        unfold okI
        rcases hi with e | e | e <;> subst e <;> omega
      exact key _ hm
    obtain ⟨o3, ps, e3, p3, h3, n3⟩ := p_loop (tb := tb) (T := T) (x := x) (y := y) (z := z) ks (acc := acc ++ [(k, L.getD d 0)]) p2 (by omega) (fun q hq => hk q (List.mem_cons_of_mem _ hq)) (fun q hq => by
      rcases List.mem_append.mp hq with z | z
      · exact ha q z
      · rw [List.mem_singleton.mp z]
        exact ⟨hk k List.mem_cons_self, hv⟩) (by rw [List.length_append, List.length_singleton]; omega)
    refine ⟨o3, ps, ?_, p3.mono (by rw [List.length_cons]; omega), h3, by rw [n3, List.length_append, List.length_singleton, List.length_cons]; omega⟩
    have t : pElt [some (.ref 1), x, y, some (.str k)] (tb :: o :: T) = some (.ok (pairD (k, L.getD d 0)) (tb :: o2 :: T)) := by
      have e2' : F__law_draw [.ref 1, .int 3] (tb :: o1 :: T) = some (.ok (.int (d : Int)) (tb :: o2 :: T)) := e2
      simp only [L, List.map_cons, List.map_nil] at xx
      simp [pElt, e1, e2', big_eq]
      rw [xx]
      rfl
    rw [List.map_cons, lc_nm, show ((wipeD [some (.ref 1), x, y, z] [3]).set 3 (some (.str k))) = [some (.ref 1), x, y, some (.str k)] from rfl, t, bndL_ok, if_pos (by rw [List.length_map, big_eq]; omega)]
    rw [List.map_append] at e3
    exact e3
theorem pairs {m : Nat} {tb o : Ob} {T : Sto} (hp : PenOk m o) (hm : m + 40 ≤ 10000) :
    ∃ (ps : List (Str × Int)) (o' : Ob), F__law_pairs [.ref 1, .int 6] (tb :: o :: T) = some (.ok (.tup (ps.map pairD)) (tb :: o' :: T)) ∧ (∀ p ∈ ps, okP p) ∧ ps.length ≤ 6 ∧ PenOk (m + 40) o' := by
  obtain ⟨a, o1, e1, a1, b1, p1⟩ := drawP (tb := tb) (T := T) (k := 7) hp (by omega) (by omega)
  obtain ⟨d, o2, e2, l2, p2⟩ := drawN (tb := tb) (T := T) (n := 4) p1 (by omega) (by omega) (by omega)
  let L : List Int := [0, 1, a, 6]
  have xx := ixi (cs := L) (S := tb :: o2 :: T) (d := d) l2
  have hv : 0 ≤ L.getD d 0 ∧ L.getD d 0 ≤ 6 := by
    have hm : L.getD d 0 ∈ L := getD_mem l2
    have key : ∀ i ∈ L, 0 ≤ i ∧ i ≤ 6 := fun i hi => by
      simp only [L, List.mem_cons, List.not_mem_nil, or_false] at hi
      rcases hi with e | e | e | e <;> subst e <;> omega
    exact key _ hm
  obtain ⟨ks, o3, e3, p3, _, h3, n3⟩ := kinds (tb := tb) (T := T) (k := L.getD d 0) p2 (by omega) ⟨hv.1, by omega⟩
  obtain ⟨o4, ps, e4, p4, h4, n4⟩ := p_loop (tb := tb) (T := T) (x := some (.int 6)) (y := some (.lst (ks.map .str))) (z := none) ks (acc := []) p3 (by omega) (fun k hk => (h3 k hk).1) (fun p hp => nomatch hp) (by show 0 + ks.length ≤ 100; omega)
  refine ⟨ps, o4, ?_, h4, by rw [n4]; show 0 + ks.length ≤ 6; omega, p4.mono (by omega)⟩
  have e2' : F__law_draw [.ref 1, .int 4] (tb :: o1 :: T) = some (.ok (.int (d : Int)) (tb :: o2 :: T)) := e2
  generalize L.getD d 0 = v at xx e3 hv
  simp only [L, List.map_cons, List.map_nil] at xx
  rw [List.map_nil] at e4
  simp [F__law_pairs, body, d__law_pairs, e1, e2', big_eq]
  rw [xx]
  simp [e3, dLc, iSeq, still]
  rw [e4]
  simp [g1, tuple1, lsOf, lstOf]
structure Ltr where
  who : Str
  word : Str
  a : Int
  b : Int
  c : Int
  ps : List (Str × Int)
def Ltr.d (l : Ltr) : D := .tup [.str l.who, .str l.word, .int l.a, .int l.b, .int l.c, .tup (l.ps.map pairD)]
def okLt (l : Ltr) : Prop := okT 8 l.who ∧ okT 8 l.word ∧ okN l.a ∧ okN l.b ∧ okN l.c ∧ l.ps.length ≤ 6 ∧ ∀ p ∈ l.ps, okP p
theorem whos : ∀ s ∈ (["a", "b", "zzzzzzzz", "me"] : List Str), okT 8 s := by
  have : ∀ s ∈ (["a", "b", "zzzzzzzz", "me"] : List Str), s.length ≤ 8 ∧ ∀ c ∈ TL.tl s, c < 128 := by decide +kernel
  exact this
theorem wrds : ∀ s ∈ (["ask", "yes", "no", "rather", "bye", "here", "there"] : List Str), okT 8 s ∧ ∀ S, inV' (.str s) (.tup [.str "bye", .str "here", .str "there"]) S = some (.bl (decide (s ∈ (["bye", "here", "there"] : List Str))), S) := by
  intro s hs
  have h1 : ∀ s ∈ (["ask", "yes", "no", "rather", "bye", "here", "there"] : List Str), s.length ≤ 8 ∧ ∀ c ∈ TL.tl s, c < 128 := by decide +kernel
  exact ⟨h1 s hs, fun S => in_tupS (ks := ["bye", "here", "there"])⟩
end Cw

set_option maxRecDepth 100000
set_option maxHeartbeats 2000000
set_option linter.all false
/-! k79: a letter's text. -/
namespace Cw
open PySem PySem.Spec PyProof.Rows L2
theorem max1 {i : Int} (h : okN i) (S : Sto) : ∃ j, max2 (.int 1) (.int i) S = some (.int j, S) ∧ okN j := by
  refine ⟨if i > 1 then i else 1, rfl, ?_⟩
  unfold okN at h ⊢
  split <;> omega
theorem someLetter {m : Nat} {tb o : Ob} {T : Sto} (hp : PenOk m o) (hm : m + 60 ≤ 10000) :
    ∃ (l : Ltr) (o' : Ob), F__law_some_letter [.ref 1] (tb :: o :: T) = some (.ok l.d (tb :: o' :: T)) ∧ okLt l ∧ PenOk (m + 60) o' := by
  obtain ⟨d1, o1, e1, l1, p1⟩ := drawN (tb := tb) (T := T) (n := 4) hp (by omega) (by omega) (by omega)
  obtain ⟨d2, o2, e2, l2, p2⟩ := drawN (tb := tb) (T := T) (n := 7) p1 (by omega) (by omega) (by omega)
  obtain ⟨i3, o3, e3, k3, p3⟩ := number (tb := tb) (T := T) p2 (by omega)
  obtain ⟨i4, o4, e4, k4, p4⟩ := number (tb := tb) (T := T) p3 (by omega)
  obtain ⟨d5, o5, e5, l5, p5⟩ := drawN (tb := tb) (T := T) (n := 2) p4 (by omega) (by omega) (by omega)
  obtain ⟨i6, o6, e6, k6, p6⟩ := number (tb := tb) (T := T) p5 (by omega)
  obtain ⟨ps, o7, e7, h7, n7, p7⟩ := pairs (tb := tb) (T := T) p6 (by omega)
  let L1 : List Str := ["a", "b", "zzzzzzzz", "me"]
  let L2 : List Str := ["ask", "yes", "no", "rather", "bye", "here", "there"]
  let L5 : List Int := [0, i4]
  have x1 := ixs (cs := L1) (S := tb :: o1 :: T) (d := d1) l1
  have x2 := ixs (cs := L2) (S := tb :: o2 :: T) (d := d2) l2
  have x5 := ixi (cs := L5) (S := tb :: o5 :: T) (d := d5) l5
  have w1 := whos _ (getD_mem (l := L1) (x := Str.empty) l1)
  have w2 := wrds _ (getD_mem (l := L2) (x := Str.empty) l2)
  have w5 : okN (L5.getD d5 0) := by
    have key : ∀ i ∈ L5, okN i := fun i hi => by
      simp only [L5, List.mem_cons, List.not_mem_nil, or_false] at hi
      rcases hi with e | e
      · subst e; unfold okN; omega
      · subst e; exact k4
    exact key _ (getD_mem l5)
  obtain ⟨j3, m3, q3⟩ := max1 k3 (tb :: o3 :: T)
  obtain ⟨j6, m6, q6⟩ := max1 k6 (tb :: o6 :: T)
  have e1' : F__law_draw [.ref 1, .int 4] (tb :: o :: T) = some (.ok (.int (d1 : Int)) (tb :: o1 :: T)) := e1
  have e2' : F__law_draw [.ref 1, .int 7] (tb :: o1 :: T) = some (.ok (.int (d2 : Int)) (tb :: o2 :: T)) := e2
  have e5' : F__law_draw [.ref 1, .int 2] (tb :: o4 :: T) = some (.ok (.int (d5 : Int)) (tb :: o5 :: T)) := e5
  generalize L1.getD d1 Str.empty = who at x1 w1
  generalize L2.getD d2 Str.empty = word at x2 w2
  generalize L5.getD d5 0 = yours at x5 w5
  simp only [L1, L2, L5, List.map_cons, List.map_nil] at x1 x2 x5
  obtain ⟨w2, w3⟩ := w2
  by_cases hb : word ∈ (["bye", "here", "there"] : List Str)
  · refine ⟨⟨who, word, j3, yours, 0, []⟩, o5, ?_, ⟨w1, w2, q3, w5, (show okN 0 from ⟨by decide, by decide⟩), Nat.zero_le _, fun p hp => nomatch hp⟩, p5.mono (by omega)⟩
    have w3' := w3 (tb :: o5 :: T)
    rw [decide_eq_true hb] at w3'
    simp [F__law_some_letter, body, d__law_some_letter, e1', big_eq]
    rw [x1]
    simp [e2']
    rw [x2]
    simp [e3, g2, m3, e4, e5']
    rw [x5]
    simp [w3', Ltr.d]
  · refine ⟨⟨who, word, j3, yours, j6, ps⟩, o7, ?_, ⟨w1, w2, q3, w5, q6, n7, h7⟩, p7.mono (by omega)⟩
    have w3' := w3 (tb :: o5 :: T)
    rw [decide_eq_false hb] at w3'
    simp [F__law_some_letter, body, d__law_some_letter, e1', big_eq]
    rw [x1]
    simp [e2']
    rw [x2]
    simp [e3, g2, m3, e4, e5']
    rw [x5]
    simp [w3', e6, m6, e7, Ltr.d]

/-! ### shown -/
theorem num_okT {i : Int} (h : okN i) : okT 10 (num i) := by
  obtain ⟨h1, h2⟩ := h
  refine ⟨?_, fun c hc => ?_⟩
  · rw [TL.len_tl, num_tl h1]
    exact TL.numL_len (by decide) (by omega)
  · have := num_digits h1 c hc
    omega
theorem str_n {i : Int} (h : okN i) (S : Sto) : str1 (.int i) S = some (.str (num i), S) := by
  have hl : i.natAbs.log2 < 1920 := by
    have h1 : i.natAbs < 2 ^ 1920 := by
      have h1 := h.1
      have h2 := h.2
      have : i.natAbs ≤ 9999999999 := by omega
      exact Nat.lt_of_le_of_lt this (by decide +kernel)
    by_cases hz : i.natAbs = 0
    · rw [hz]
      decide
    · exact (Nat.log2_lt hz).mpr h1
  exact if_pos hl
theorem fmt_n {i : Int} (h : okN i) : fmt1 (.int i) = some (.str (num i)) := by
  have z := str_n h []
  have z' : (if i.natAbs.log2 < 1920 then some (D.str (toString i), ([] : Sto)) else none) = some (.str (num i), []) := z
  show (if i.natAbs.log2 < 1920 then some (D.str (toString i)) else none) = _
  by_cases q : i.natAbs.log2 < 1920
  · rw [if_pos q]
    rfl
  · rw [if_neg q] at z'
    cases z'
theorem fmt_s {s : Str} (h : s.length ≤ big) : fmt1 (.str s) = some (.str s) := if_pos h
theorem names_okT : ∀ s ∈ NAMES, okT 8 s := by
  have : ∀ s ∈ NAMES, s.length ≤ 8 ∧ ∀ c ∈ TL.tl s, c < 128 := by decide +kernel
  exact this
theorem lit_okT : okT 1 "=" := by
  have : ("=" : Str).length ≤ 1 ∧ ∀ c ∈ TL.tl "=", c < 128 := by decide +kernel
  exact this
theorem empty_app (t : Str) : Str.empty ++ t = t := TL.ext_tl (by rw [TL.tl_append]; rfl)
def pairT (p : Str × Int) : Str := p.1 ++ "=" ++ num p.2
theorem pairT_ok {p : Str × Int} (h : okP p) : okT 19 (pairT p) := ((names_okT _ h.1).app lit_okT).app (num_okT ⟨h.2.1, by have := h.2.2; omega⟩)
def fP : D → D := fun d => match d with
  | .tup [.str k, .int i] => .str (k ++ "=" ++ num i)
  | d => d
theorem showLetter {l : Ltr} (h : okLt l) (S : Sto) : ∃ t, F_show_letter [l.d] S = some (.ok (.str t) S) ∧ okT 1000 t := by
  obtain ⟨who, word, a, b, c, ps⟩ := l
  obtain ⟨h1, h2, h3, h4, h5, h6, h7⟩ := h
  simp only at h1 h2 h3 h4 h5 h6 h7
  let ws : List Str := [who, word, num a, num b, num c] ++ ps.map pairT
  have hw : ∀ w ∈ ws, okT 19 w := fun w hw => by
    rcases List.mem_append.mp hw with z | z
    · simp only [List.mem_cons, List.not_mem_nil, or_false] at z
      rcases z with e | e | e | e | e <;> subst e
      · exact h1.mono (by omega)
      · exact h2.mono (by omega)
      · exact (num_okT h3).mono (by omega)
      · exact (num_okT h4).mono (by omega)
      · exact (num_okT h5).mono (by omega)
    · obtain ⟨p, hp, e⟩ := List.mem_map.mp z
      subst e
      exact pairT_ok (h7 p hp)
  have hwt : wt ws ≤ 220 := by
    have key : ∀ l : List Str, (∀ w ∈ l, okT 19 w) → wt l ≤ 20 * l.length := by
      intro l
      induction l with
      | nil => intro _; simp [wt]
      | cons x l ih =>
        intro hx
        have z1 := (hx x List.mem_cons_self).1
        have z2 := ih fun w hw => hx w (List.mem_cons_of_mem _ hw)
        rw [wt_cons, List.length_cons]
        omega
    have z := key ws hw
    have : ws.length = 5 + ps.length := by
      show ([who, word, num a, num b, num c] ++ ps.map pairT).length = _
      rw [List.length_append, List.length_map]
      rfl
    omega
  refine ⟨Txt.join " " ws, ?_, okT.join sep_sp (by decide) (by omega) fun w hm c hc => (hw w hm).2 c hc⟩
  have e := lc_map (A := dJs ((dFmt (dVar 7)) :: (dC (.str "=")) :: (dFmt (dVar 8)) :: []) Str.empty) (vs := [7, 8]) (G := gSeq 2 (gsCons (gNm 7) (gsCons (gNm 8) (gsNil))))
    (δ := [some (Ltr.d ⟨who, word, a, b, c, ps⟩), some (.str who), some (.str word), some (.int a), some (.int b), some (.int c), some (.tup (ps.map pairD)), none, none]) (S := S) (f := fP) (ds := ps.map pairD) (acc := []) (fun d hd => by
    obtain ⟨p, hp, e⟩ := List.mem_map.mp hd
    subst e
    obtain ⟨k, i⟩ := p
    have hk := (names_okT _ (h7 _ hp).1).1
    have hi : okN i := ⟨(h7 _ hp).2.1, by have := (h7 _ hp).2.2; omega⟩
    have l1 := (num_okT hi).1
    simp only at hk
    have f1 := fmt_s (s := k) (by rw [big_eq]; omega)
    have le : ("=" : Str).length = 1 := by decide +kernel
    have c1 : (Str.empty ++ k).length ≤ big := by rw [empty_app, big_eq]; omega
    have c2 : (k ++ ("=" : Str)).length ≤ big := by rw [Str.length_append, le, big_eq]; omega
    have c3 : (k ++ ("=" : Str) ++ num i).length ≤ big := by rw [Str.length_append, Str.length_append, le, big_eq]; omega
    refine ⟨[some (Ltr.d ⟨who, word, a, b, c, ps⟩), some (.str who), some (.str word), some (.int a), some (.int b), some (.int c), some (.tup (ps.map pairD)), some (.str k), some (.int i)], rfl, ?_⟩
    rw [empty_app] at c1
    simp [dJs, dFmt, f1, empty_app, c1, c2, fmt_n hi, c3, fP, pairD]) (by rw [List.length_map, List.length_nil, big_eq]; omega)
  have mp : (ps.map pairD).map fP = (ps.map pairT).map .str := by
    rw [List.map_map, List.map_map]
    rfl
  rw [mp, List.nil_append] at e
  have jn := join_wok (sep := " ") (l := ws) (S := S) sep_sp (by omega)
  have ad : addV (.lst [.str who, .str word, .str (num a), .str (num b), .str (num c)]) (.lst ((ps.map pairT).map .str)) S = some (.lst (ws.map .str), S) := by
    rw [add_ll (by simp [big_eq]; omega)]
    show _ = some (D.lst (([who, word, num a, num b, num c] ++ ps.map pairT).map .str), S)
    rw [List.map_append (l₁ := [who, word, num a, num b, num c])]
    rfl
  have it : items S (Ltr.d ⟨who, word, a, b, c, ps⟩) = some [.str who, .str word, .int a, .int b, .int c, .tup (ps.map pairD)] := rfl
  generalize Ltr.d ⟨who, word, a, b, c, ps⟩ = ld at e it ⊢
  generalize ws = ws' at jn ad
  simp [F_show_letter, body, d_show_letter, gSeq, it, gsCons, gsNil, ty_str, g1, str_n h3, str_n h4, str_n h5, big_eq, dLc, iSeq, still, -List.map_map]
  rw [e]
  simp [ad, jn, -List.map_map]
end Cw

set_option maxRecDepth 100000
set_option maxHeartbeats 2000000
set_option linter.all false
/-! k79: texts bent. -/
namespace Cw
open PySem PySem.Spec PyProof.Rows L2
section
variable {S : Sto} {l : List Str} {n : Nat}
theorem slTo : slV (.lst (l.map .str)) none (some (n : Int)) S = some (.lst ((l.take n).map .str), S) := by
  show some (D.lst (cutD (l.map .str) none (some (n : Int))), S) = _
  rw [cut_to, List.map_take]
theorem slFrom (h : n ≤ l.length) : slV (.lst (l.map .str)) (some (n : Int)) none S = some (.lst ((l.drop n).map .str), S) := by
  show some (D.lst (cutD (l.map .str) (some (n : Int)) none), S) = _
  rw [cut_from (by rw [List.length_map]; exact h), List.map_drop]
theorem slTo1 : slV (.lst (l.map .str)) none (some ((n : Int) + 1)) S = some (.lst ((l.take (n + 1)).map .str), S) := slTo (n := n + 1)
theorem slFrom1 (h : n + 1 ≤ l.length) : slV (.lst (l.map .str)) (some ((n : Int) + 1)) none S = some (.lst ((l.drop (n + 1)).map .str), S) := slFrom (n := n + 1) h
theorem addS {a b : List Str} (h : a.length + b.length ≤ big) : addV (.lst (a.map .str)) (.lst (b.map .str)) S = some (.lst ((a ++ b).map .str), S) := by
  rw [add_ll (by rw [List.length_map, List.length_map]; exact h), List.map_append]
theorem setl_ref {d : D} {ds : List D} {m : Nat} (h : S[n]? = some (.lst ds)) (hi : m < ds.length) : setV (.ref n) (.int m) d S = some (S.set n (.lst (ds.set m d))) := by
  unfold setV
  simp only [h]
  rw [ixN_nat (by omega) (by omega), Int.toNat_natCast]
  rfl
theorem join_items {x : D} {ys : List Str} {sep : Str} {s : Nat} (h : items S x = some (ys.map .str)) (e : TL.tl sep = [s]) (hw : wt ys ≤ 16777216) : joinV (.str sep) [x] S = some (.str (Txt.join sep ys), S) := by
  show (match items S x with
    | some ds => match txs ds with
      | some (ys : List Str) => if (ys.map fun w : Str => w.length).sum + ys.length * sep.length ≤ 16777216 then some (D.str (Txt.join sep ys), S) else none
      | none => none
    | none => none) = _
  rw [h]
  dsimp only
  rw [txs_map]
  have e1 : sep.length = 1 := by rw [TL.len_tl, e]; rfl
  exact if_pos (by rw [e1, Nat.mul_one, wt_sum]; exact hw)
end
/-- what is made of a line's words -/
structure Bent (S : Sto) (x : D) (n : Nat) : Prop where
  ex : ∃ ys : List Str, items S x = some (ys.map .str) ∧ wt ys ≤ n ∧ ∀ w ∈ ys, ∀ c ∈ TL.tl w, c < 128
theorem mem_set {α : Type} {l : List α} {i : Nat} {x y : α} (h : y ∈ l.set i x) : y = x ∨ y ∈ l := by
  rcases List.mem_or_eq_of_mem_set h with z | z
  · exact .inr z
  · exact .inl z
theorem wordBent {m n : Nat} {tb o : Ob} {T : Sto} {t : Str} {Os : List Str} (hp : PenOk m o) (hm : m + 5 ≤ 10000) (ht : okT n t) (hn : n ≤ 100000) (hO : 0 < Os.length) (hO2 : Os.length ≤ 100) (hOs : ∀ w ∈ Os, okT 14 w) :
    ∃ (t' : Str) (o' : Ob), F__law_word_bent [.ref 1, .str t, .lst (Os.map .str)] (tb :: o :: T) = some (.ok (.str t') (tb :: o' :: T)) ∧ okT (4 * n + 30) t' ∧ PenOk (m + 5) o' := by
  obtain ⟨f1, f2, f3⟩ := split_facts (t := t) sep_nl (by decide)
  have fk : ∀ w ∈ Txt.split t "\n", okT n w := fun w hw => ht.split sep_nl (by decide) hw
  have sp1 : splitVO (.str t) [.str "\n"] (tb :: o :: T) = some (.ref (T.length + 2), (tb :: o :: T) ++ [.lst ((Txt.split t "\n").map .str)]) := if_pos ⟨by decide +kernel, by have := ht.1; rw [big_eq]; omega⟩
  generalize Txt.split t "\n" = Ls at f1 f2 fk sp1
  have hL : 0 < Ls.length := List.length_pos_iff.mpr f1
  have hL2 : Ls.length ≤ 100001 := by have := wt_len Ls; have := ht.1; omega
  let X1 : Ob := .lst (Ls.map .str)
  have r1 : ∀ o', (tb :: o' :: (T ++ [X1]))[T.length + 2]? = some (.lst (Ls.map .str)) := fun o' => tat1 (R := [])
  obtain ⟨d4, o1, e1, l1, p1⟩ := drawN (tb := tb) (T := T ++ [X1]) (n := Ls.length) hp (by omega) hL (by omega)
  have x1 : ixV (.ref (T.length + 2)) (.int d4) (tb :: o1 :: (T ++ [X1])) = some (.str (Ls[d4]), tb :: o1 :: (T ++ [X1])) := by
    rw [ix_ref (r1 o1) (by omega) (by rw [List.length_map]; omega), Int.toNat_natCast, getD_map D.str l1]
  have hl := fk _ (List.getElem_mem l1)
  generalize Ls[d4] = line at x1 hl
  obtain ⟨g1', g2', g3⟩ := split_facts (t := line) sep_sp (by decide)
  have gk : ∀ w ∈ Txt.split line " ", okT n w := fun w hw => hl.split sep_sp (by decide) hw
  have sp2 := fun S => split_ok (a := line) (b := " ") (by decide +kernel) (by have := hl.1; rw [big_eq]; omega) S
  generalize Txt.split line " " = Ws at g1' g2' gk sp2
  have hW : 0 < Ws.length := List.length_pos_iff.mpr g1'
  have hW2 : Ws.length ≤ n + 1 := by have := wt_len Ws; have := hl.1; omega
  have hwt : wt Ws ≤ n + 1 := by have := hl.1; omega
  obtain ⟨d6, o2, e2, l2, p2⟩ := drawN (tb := tb) (T := T ++ [X1]) (n := Ws.length) p1 (by omega) hW (by omega)
  obtain ⟨d7, o3, e3, l3, p3⟩ := drawN (tb := tb) (T := T ++ [X1]) (n := Ws.length) p2 (by omega) hW (by omega)
  obtain ⟨d8, o4, e4, l4, p4⟩ := drawN (tb := tb) (T := T ++ [X1]) (n := Os.length) p3 (by omega) hO (by omega)
  have x4 := ixs (cs := Os) (S := tb :: o4 :: (T ++ [X1])) l4
  have hnew := hOs _ (getD_mem (x := Str.empty) l4)
  generalize Os.getD d8 Str.empty = new at x4 hnew
  have r2 : ∀ (o' : Ob) (ds : List D), (tb :: o' :: (T ++ [X1, .lst ds]))[T.length + 3]? = some (.lst ds) := fun o' ds => tat2
  have x6 := fun S => ixs (cs := Ws) (S := S) l2
  have x7 := fun S => ixs (cs := Ws) (S := S) l3
  have m6 := getD_mem (l := Ws) (x := Str.empty) l2
  have m7 := getD_mem (l := Ws) (x := Str.empty) l3
  have s1 := setl_ref (d := .str (Ws.getD d7 Str.empty)) (r2 o4 (Ws.map .str)) (m := d6) (by rw [List.length_map]; exact l2)
  have s2 := setl_ref (d := .str (Ws.getD d6 Str.empty)) (r2 o4 ((Ws.map D.str).set d6 (.str (Ws.getD d7 Str.empty)))) (m := d7) (by rw [List.length_set, List.length_map]; exact l3)
  rw [tset2] at s1 s2
  generalize Ws.getD d6 Str.empty = w6 at x6 m6 s1 s2
  generalize Ws.getD d7 Str.empty = w7 at x7 m7 s1 s2
  let Tn : List Str := (Ws.set d6 w7).set d7 w6
  have hT : ((Ws.map D.str).set d6 (.str w7)).set d7 (.str w6) = Tn.map .str := by
    simp only [Tn]
    rw [List.map_set, List.map_set]
  rw [hT] at s2
  obtain ⟨X2, hX2⟩ : ∃ X2 : Ob, Ob.lst (Tn.map .str) = X2 := ⟨_, rfl⟩
  rw [hX2] at s2
  obtain ⟨d9, o5, e5, l5, p5⟩ := drawN (tb := tb) (T := T ++ [X1, X2]) (n := 5) p4 (by omega) (by omega) (by omega)
  have cW : ∀ w ∈ Ws, ∀ c ∈ TL.tl w, c < 128 := fun w hw => (gk w hw).2
  have lW : ∀ w ∈ Ws, w.length ≤ n := fun w hw => (gk w hw).1
  have ex : ∃ x, ixV (.lst [.lst ((Ws.take d6 ++ [new] ++ Ws.drop (d6 + 1)).map .str), .lst ((Ws.take d6 ++ [new] ++ Ws.drop d6).map .str), .lst ((Ws.take d6 ++ Ws.drop (d6 + 1)).map .str), .ref (T.length + 3), .lst ((Ws.take (d6 + 1) ++ Ws.drop d6).map .str)]) (.int d9) (tb :: o5 :: (T ++ [X1, X2])) = some (x, tb :: o5 :: (T ++ [X1, X2])) ∧ Bent (tb :: o5 :: (T ++ [X1, X2])) x (3 * n + 20) := by
    have tk : wt (Ws.take d6) ≤ wt Ws := wt_sub (List.take_sublist _ _)
    have tk1 : wt (Ws.take (d6 + 1)) ≤ wt Ws := wt_sub (List.take_sublist _ _)
    have dr : wt (Ws.drop d6) ≤ wt Ws := wt_sub (List.drop_sublist _ _)
    have dr1 : wt (Ws.drop (d6 + 1)) ≤ wt Ws := wt_sub (List.drop_sublist _ _)
    have wn : wt [new] ≤ 15 := by have := hnew.1; rw [wt_cons, wt_nil]; omega
    have cn : ∀ w ∈ ([new] : List Str), ∀ c ∈ TL.tl w, c < 128 := fun w hw => by rw [List.mem_singleton.mp hw]; exact hnew.2
    have ct : ∀ k, ∀ w ∈ Ws.take k, ∀ c ∈ TL.tl w, c < 128 := fun k w hw => cW w (List.mem_of_mem_take hw)
    have cd : ∀ k, ∀ w ∈ Ws.drop k, ∀ c ∈ TL.tl w, c < 128 := fun k w hw => cW w (List.mem_of_mem_drop hw)
    have ca : ∀ (a b : List Str), (∀ w ∈ a, ∀ c ∈ TL.tl w, c < 128) → (∀ w ∈ b, ∀ c ∈ TL.tl w, c < 128) → ∀ w ∈ a ++ b, ∀ c ∈ TL.tl w, c < 128 := fun a b h1 h2 w hw => (List.mem_append.mp hw).elim (h1 w) (h2 w)
    match d9, l5 with
    | 0, _ => exact ⟨_, rfl, _, rfl, by rw [wt_app, wt_app]; omega, ca _ _ (ca _ _ (ct _) cn) (cd _)⟩
    | 1, _ => exact ⟨_, rfl, _, rfl, by rw [wt_app, wt_app]; omega, ca _ _ (ca _ _ (ct _) cn) (cd _)⟩
    | 2, _ => exact ⟨_, rfl, _, rfl, by rw [wt_app]; omega, ca _ _ (ct _) (cd _)⟩
    | 3, _ =>
      refine ⟨_, rfl, Tn, ?_, ?_, fun w hw => ?_⟩
      · show (match (tb :: o5 :: (T ++ [X1, X2]))[T.length + 3]? with
          | some (.lst ds) => some ds
          | _ => none) = _
        rw [← hX2, r2 o5]
      · have z1 := wt_set (l := Ws.set d6 w7) (x := w6) (i := d7)
        have z2 := wt_set (l := Ws) (x := w7) (i := d6)
        have q6 := lW w6 m6
        have q7 := lW w7 m7
        show wt ((Ws.set d6 w7).set d7 w6) ≤ _
        omega
      · rcases mem_set hw with z | z
        · rw [z]; exact cW _ m6
        · rcases mem_set z with z | z
          · rw [z]; exact cW _ m7
          · exact cW _ z
    | 4, _ => exact ⟨_, rfl, _, rfl, by rw [wt_app]; omega, ca _ _ (ct _) (cd _)⟩
    | k + 5, h => omega
  obtain ⟨x, e6, ⟨ys, e7, w7', c7⟩⟩ := ex
  have j1 := join_items e7 sep_sp (by omega)
  have kJ : okT (3 * n + 20) (Txt.join " " ys) := okT.join sep_sp (by decide) w7' c7
  generalize Txt.join " " ys = J at j1 kJ
  have r1' : ∀ (o' : Ob) (B : Ob), (tb :: o' :: (T ++ [X1, B]))[T.length + 2]? = some (.lst (Ls.map .str)) := fun o' B => tat1 (R := [B])
  have s3 := setl_ref (d := .str J) (r1' o5 X2) (m := d4) (by rw [List.length_map]; exact l1)
  rw [tset1, show (Ls.map D.str).set d4 (.str J) = (Ls.set d4 J).map .str by rw [List.map_set]] at s3
  have j2 := joinR_wok (sep := "\n") (S := tb :: o5 :: (T ++ [.lst ((Ls.set d4 J).map .str), X2])) (n := T.length + 2) (l := Ls.set d4 J) (tat1 (R := [X2])) sep_nl (by
    have := wt_set (l := Ls) (x := J) (i := d4)
    have := kJ.1
    have := ht.1
    omega)
  refine ⟨Txt.join "\n" (Ls.set d4 J), o5, ?_, ?_, p5⟩
  · refine cut_t (X := [.lst ((Ls.set d4 J).map .str), X2]) ?_ rfl p5.low
    have sp1' : splitVO (.str t) [.str "\n"] (tb :: o :: T) = some (.ref (T.length + 2), tb :: o :: (T ++ [X1])) := sp1
    have n1 := len_ref (r1 o)
    rw [List.length_map] at n1
    have lw : ∀ S, len1 (.lst (Ws.map .str)) S = some (.int Ws.length, S) := fun S => by rw [len_l, List.length_map]
    have lo : ∀ S, len1 (.lst (Os.map .str)) S = some (.int Os.length, S) := fun S => by rw [len_l, List.length_map]
    have lst1 : list1O (.lst (Ws.map .str)) (tb :: o4 :: (T ++ [X1])) = some (.ref (T.length + 3), tb :: o4 :: (T ++ [X1, .lst (Ws.map .str)])) := by
      show some (D.ref (tb :: o4 :: (T ++ [X1])).length, (tb :: o4 :: (T ++ [X1])) ++ [.lst (Ws.map .str)]) = _
      simp
    have a1 : ∀ S, slV (.lst (Ws.map .str)) none (some (d6 : Int)) S = some (.lst ((Ws.take d6).map .str), S) := fun S => slTo
    have a2 : ∀ S, slV (.lst (Ws.map .str)) (some (d6 : Int)) none S = some (.lst ((Ws.drop d6).map .str), S) := fun S => slFrom (by omega)
    have a3 : ∀ S, slV (.lst (Ws.map .str)) none (some ((d6 : Int) + 1)) S = some (.lst ((Ws.take (d6 + 1)).map .str), S) := fun S => slTo1
    have a4 : ∀ S, slV (.lst (Ws.map .str)) (some ((d6 : Int) + 1)) none S = some (.lst ((Ws.drop (d6 + 1)).map .str), S) := fun S => slFrom1 (by omega)
    have lt0 : (Ws.take d6).length ≤ Ws.length := by rw [List.length_take]; omega
    have lt1 : (Ws.take (d6 + 1)).length ≤ Ws.length := by rw [List.length_take]; omega
    have ld0 : (Ws.drop d6).length ≤ Ws.length := by rw [List.length_drop]; omega
    have ld1 : (Ws.drop (d6 + 1)).length ≤ Ws.length := by rw [List.length_drop]; omega
    have b1 : ∀ S, addV (.lst ((Ws.take d6).map .str)) (.lst [.str new]) S = some (.lst ((Ws.take d6 ++ [new]).map .str), S) := fun S => addS (b := [new]) (by rw [big_eq]; show _ + 1 ≤ _; omega)
    have ln : (Ws.take d6 ++ [new]).length ≤ Ws.length + 1 := by rw [List.length_append, List.length_singleton]; omega
    have b2 : ∀ S, addV (.lst ((Ws.take d6 ++ [new]).map .str)) (.lst ((Ws.drop (d6 + 1)).map .str)) S = some (.lst ((Ws.take d6 ++ [new] ++ Ws.drop (d6 + 1)).map .str), S) := fun S => addS (by rw [big_eq]; omega)
    have b3 : ∀ S, addV (.lst ((Ws.take d6 ++ [new]).map .str)) (.lst ((Ws.drop d6).map .str)) S = some (.lst ((Ws.take d6 ++ [new] ++ Ws.drop d6).map .str), S) := fun S => addS (by rw [big_eq]; omega)
    have b4 : ∀ S, addV (.lst ((Ws.take d6).map .str)) (.lst ((Ws.drop (d6 + 1)).map .str)) S = some (.lst ((Ws.take d6 ++ Ws.drop (d6 + 1)).map .str), S) := fun S => addS (by rw [big_eq]; omega)
    have b5 : ∀ S, addV (.lst ((Ws.take (d6 + 1)).map .str)) (.lst ((Ws.drop d6).map .str)) S = some (.lst ((Ws.take (d6 + 1) ++ Ws.drop d6).map .str), S) := fun S => addS (by rw [big_eq]; omega)
    have b6 : ∀ (a b c d e : D) S, addV (.lst [a, b, c]) (.lst [d, e]) S = some (.lst [a, b, c, d, e], S) := fun a b c d e S => add_ll (a := [a, b, c]) (b := [d, e]) (by rw [big_eq]; show 3 + 2 ≤ 1000000; omega)
    have tys := ty_str
    have e5' : F__law_draw [.ref 1, .int 5] (tb :: o4 :: (T ++ [X1, X2])) = some (.ok (.int (d9 : Int)) (tb :: o5 :: (T ++ [X1, X2]))) := e5
    generalize (Ws.take d6 ++ [new] ++ Ws.drop (d6 + 1)).map D.str = q0 at b2 e6
    generalize (Ws.take d6 ++ [new] ++ Ws.drop d6).map D.str = q1 at b3 e6
    generalize (Ws.take d6 ++ Ws.drop (d6 + 1)).map D.str = q2 at b4 e6
    generalize (Ws.take (d6 + 1) ++ Ws.drop d6).map D.str = q4 at b5 e6
    generalize (Ws.take d6 ++ [new]).map D.str = q5 at b1 b2 b3
    generalize (Ws.take d6).map D.str = q6 at a1 b1 b4
    generalize (Ws.take (d6 + 1)).map D.str = q7 at a3 b5
    generalize (Ws.drop d6).map D.str = q8 at a2 b3 b5
    generalize (Ws.drop (d6 + 1)).map D.str = q9 at a4 b2 b4
    generalize hWD : Ws.map D.str = WD at sp2 x6 x7 s1 s2 lw lst1 a1 a2 a3 a4
    generalize Os.map D.str = OD at x4 lo
    simp [body, d__law_word_bent, sp1', g1, n1, e1, x1, sp2, lw, e2, e3, lo, e4, x4, lst1, x7, s1, x6, s2, a1, a2, a3, a4, b1, b2, b3, b4, b5, b6, big_eq, e5', e6, j1, s3, j2, tys, -List.map_set]
  · have z := wt_set (l := Ls) (x := J) (i := d4)
    have k1 := kJ.1
    have k2 := ht.1
    refine okT.join sep_nl (by decide) (by omega) fun w hw => ?_
    rcases mem_set hw with q | q
    · rw [q]; exact kJ.2
    · exact (fk w q).2
end Cw

set_option maxRecDepth 100000
set_option maxHeartbeats 2000000
set_option linter.all false
/-! k79: a sign bent. -/
namespace Cw
open PySem PySem.Spec PyProof.Rows L2
theorem slS {t : Str} (h : t.length ≤ big) (lo hi : Option Int) (S : Sto) : slV (.str t) lo hi S = some (.str (cutS t lo hi), S) := if_pos h
theorem ix_strN {s : Str} {d : Nat} (h : d < s.length) (hl : s.length ≤ big) (S : Sto) : ∃ c, ixV (.str s) (.int d) S = some (.str ⟨#[c]⟩, S) ∧ c ∈ TL.tl s := by
  have hd : d < s.cps.toList.length := by rw [Array.length_toList]; exact h
  refine ⟨s.cps.toList[d], ?_, List.getElem_mem hd⟩
  show (if s.length ≤ big then (L2.atI s.cps.toList d).map (fun c => (D.str ⟨#[c]⟩, S)) else none) = _
  rw [if_pos hl]
  have e : L2.atI s.cps.toList (d : Int) = some s.cps.toList[d] := by
    unfold L2.atI
    rw [ixN_nat (by omega) (by omega), Int.toNat_natCast]
    show s.cps.toList[d]? = _
    rw [List.getElem?_eq_getElem hd]
  rw [e]
  rfl
def SG1 : Str := " !\"#$&'()*+,-./0123456789:;<=>?@ABCDEFGHIJKLMNOPQRSTUVWXYZ"
def SG2 : Str := "[\\]^_`abcdefghijklmnopqrstuvwxyz{|}~\n"
theorem sg1_ok : okT 60 SG1 := by
  have : SG1.length ≤ 60 ∧ ∀ c ∈ TL.tl SG1, c < 128 := by decide +kernel
  exact this
theorem sg2_ok : okT 40 SG2 := by
  have : SG2.length ≤ 40 ∧ ∀ c ∈ TL.tl SG2, c < 128 := by decide +kernel
  exact this
theorem sg_pos : 0 < (SG1 ++ SG2).length := by decide +kernel
theorem empty_ok : okT 0 "" := by
  have : ("" : Str).length ≤ 0 ∧ ∀ c ∈ TL.tl "", c < 128 := by decide +kernel
  exact this
theorem signBent {m n : Nat} {tb o : Ob} {T : Sto} {t lk : Str} (hp : PenOk m o) (hm : m + 5 ≤ 10000) (ht : okT n t) (hn : n ≤ 100000) (hk : okT 20 lk) (hk0 : 0 < lk.length) :
    ∃ (t' : Str) (o' : Ob), F__law_sign_bent [.ref 1, .str t, .str lk] (tb :: o :: T) = some (.ok (.str t') (tb :: o' :: T)) ∧ okT (4 * n + 1) t' ∧ PenOk (m + 5) o' := by
  obtain ⟨d1, o1, e1, l1, p1⟩ := drawN (tb := tb) (T := T) (n := 3) hp (by omega) (by omega) (by omega)
  have sg : ∃ sgs : Str, (∀ S, ixV (.lst [.str (SG1 ++ SG2), .str lk]) (.int (if 0 < d1 then 1 else 0)) S = some (.str sgs, S)) ∧ okT 100 sgs ∧ 0 < sgs.length := by
    by_cases h : 0 < d1
    · refine ⟨lk, fun S => ?_, hk.mono (by omega), hk0⟩
      rw [if_pos h]
      rfl
    · refine ⟨SG1 ++ SG2, fun S => ?_, sg1_ok.app sg2_ok, sg_pos⟩
      rw [if_neg h]
      rfl
  obtain ⟨sgs, x1, k1, kp⟩ := sg
  obtain ⟨d2, o2, e2, l2, p2⟩ := drawN (tb := tb) (T := T) (n := sgs.length) p1 (by omega) kp (by have := k1.1; omega)
  obtain ⟨c, x2, hc⟩ := ix_strN l2 (by have := k1.1; rw [big_eq]; omega) (tb :: o2 :: T)
  have sgk : okT 1 (⟨#[c]⟩ : Str) := ⟨Nat.le_refl _, fun d hd => by
    have hd' : d ∈ [c] := hd
    rw [List.mem_singleton.mp hd']
    exact k1.2 c hc⟩
  generalize (⟨#[c]⟩ : Str) = sg at x2 sgk
  obtain ⟨d3, o3, e3, l3, p3⟩ := drawN (tb := tb) (T := T) (n := t.length + 1) p2 (by omega) (by omega) (by have := ht.1; omega)
  obtain ⟨d4, o4, e4, l4, p4⟩ := drawN (tb := tb) (T := T) (n := 5) p3 (by omega) (by omega) (by omega)
  have hb : t.length ≤ big := by have := ht.1; rw [big_eq]; omega
  have a0 : ∀ S, addV (.str SG1) (.str SG2) S = some (.str (SG1 ++ SG2), S) := fun S => add_ss (by have := sg1_ok.1; have := sg2_ok.1; rw [big_eq]; omega)
  simp only [SG1, SG2] at a0 x1
  have e3' : F__law_draw [.ref 1, .int ((t.length : Int) + 1)] (tb :: o2 :: T) = some (.ok (.int (d3 : Int)) (tb :: o3 :: T)) := e3
  have e1' : F__law_draw [.ref 1, .int 3] (tb :: o :: T) = some (.ok (.int (d1 : Int)) (tb :: o1 :: T)) := e1
  have e4' : F__law_draw [.ref 1, .int 5] (tb :: o3 :: T) = some (.ok (.int (d4 : Int)) (tb :: o4 :: T)) := e4
  have sl := slS hb
  have ls := fun S => len_s (s := sgs) (by have := k1.1; rw [big_eq]; omega) S
  have lt := fun S => len_s (s := t) hb S
  have big2 : ∀ {a b : Str} {p q : Nat}, okT p a → okT q b → p + q ≤ 1000000 → ∀ S, addV (.str a) (.str b) S = some (.str (a ++ b), S) := fun h1 h2 h3 S => add_ss (by have := h1.1; have := h2.1; rw [big_eq]; omega)
  by_cases h4 : (d4 : Int) = 4
  · have c1 := ht.cut (some ((d3 : Int) + 1)) (some ((d3 : Int) + 2))
    have c2 := ht.cut (some (d3 : Int)) (some ((d3 : Int) + 1))
    have c3 := ht.cut none (some (d3 : Int))
    have c4 := ht.cut (some ((d3 : Int) + 2)) none
    have w1 := big2 c1 c2 (by omega)
    have w2 := big2 c3 (c1.app c2) (by omega)
    have w3 := big2 (c3.app (c1.app c2)) c4 (by omega)
    refine ⟨_, o4, ?_, ((c3.app (c1.app c2)).app c4).mono (by omega), p4.mono (by omega)⟩
    rw [h4] at e4'
    simp [F__law_sign_bent, body, d__law_sign_bent, a0, e1', g1, g2, x1, ls, e2, x2, lt, e3', e4', sl, w1, w2, w3, big_eq]
  · have sm : ∃ (y : Str) (k : Nat), (∀ S, ixV (.lst [.str sg, .str sg, .str "", .str (cutS t (some (d3 : Int)) (some ((d3 : Int) + 1)) ++ cutS t (some (d3 : Int)) (some ((d3 : Int) + 1)))]) (.int (d4 : Int)) S = some (.str y, S)) ∧ okT (2 * n + 1) y := by
      have c2 := ht.cut (some (d3 : Int)) (some ((d3 : Int) + 1))
      match d4, l4, h4 with
      | 0, _, _ => exact ⟨_, 0, fun S => rfl, sgk.mono (by omega)⟩
      | 1, _, _ => exact ⟨_, 0, fun S => rfl, sgk.mono (by omega)⟩
      | 2, _, _ => exact ⟨_, 0, fun S => rfl, empty_ok.mono (by omega)⟩
      | 3, _, _ => exact ⟨_, 0, fun S => rfl, (c2.app c2).mono (by omega)⟩
      | 4, _, h => exact absurd rfl h
      | k + 5, h, _ => omega
    obtain ⟨y, _, x3, ky⟩ := sm
    have c3 := ht.cut none (some (d3 : Int))
    have c4 := ht.cut (some ((d3 : Int) + (if 0 < d4 then 1 else 0))) none
    have c2 := ht.cut (some (d3 : Int)) (some ((d3 : Int) + 1))
    have tw : ∀ S, twiceV (.str (cutS t (some (d3 : Int)) (some ((d3 : Int) + 1)))) (.int 2) S = some (.str (cutS t (some (d3 : Int)) (some ((d3 : Int) + 1)) ++ cutS t (some (d3 : Int)) (some ((d3 : Int) + 1))), S) := fun S => if_pos (by have := c2.1; rw [big_eq]; omega)
    have w2 := big2 c3 ky (by omega)
    have w3 := big2 (c3.app ky) c4 (by omega)
    refine ⟨_, o4, ?_, ((c3.app ky).app c4).mono (by omega), p4.mono (by omega)⟩
    simp [F__law_sign_bent, body, d__law_sign_bent, a0, e1', g1, g2, x1, ls, e2, x2, lt, e3', e4', h4, sl, tw, x3, w2, w3, big_eq]
end Cw

set_option maxRecDepth 100000
set_option maxHeartbeats 2000000
set_option linter.all false
/-! k79: names, numbers. -/
namespace Cw
open PySem PySem.Spec PyProof.Rows L2
theorem signs_comp {s z : Str} (hl : s.length ≤ big) {i : Nat} {δ : Env} (hi : i < δ.length) (S : Sto) : lcD [i] (gNm i) tYesD (dOp inV' (dVar i) (dC (.str z))) (s.cps.toList.map sgn) δ S [] = some (.ok ((TL.tl s).map fun c => D.bl (among z c)) S) := by
  have key : ∀ (l : List Nat) (acc : List D), acc.length + l.length ≤ big → lcD [i] (gNm i) tYesD (dOp inV' (dVar i) (dC (.str z))) (l.map sgn) δ S acc = some (.ok (acc ++ l.map fun c => D.bl (among z c)) S) := by
    intro l
    induction l with
    | nil => intro acc _; rw [List.map_nil, List.map_nil, List.append_nil, lc_end]
    | cons c l ih =>
      intro acc h
      rw [List.length_cons] at h
      have t : dOp inV' (dVar i) (dC (.str z)) ((wipeD δ [i]).set i (some (sgn c))) S = some (.ok (.bl (among z c)) S) := by
        have e : ((wipeD δ [i]).set i (some (sgn c)))[i]? = some (some (sgn c)) := by
          rw [List.getElem?_set_self]
          show i < (δ.set i none).length
          rw [List.length_set]
          exact hi
        simp [e, sgn_inB]
      rw [List.map_cons, lc_nm, t, bndL_ok, if_pos (by omega), ih _ (by rw [List.length_append, List.length_singleton]; omega), List.append_assoc]
      rfl
  have e := key (TL.tl s) [] (by rw [TL.len_tl] at hl; rw [List.length_nil]; omega)
  rw [List.nil_append] at e
  exact e
theorem isName {s : Str} (hl : s.length ≤ big) (S : Sto) : F_is_name [.str s] S = some (.ok (.bl (isNm s)) S) := by
  have e := signs_comp (z := "abcdefghijklmnopqrstuvwxyz") hl (i := 1) (δ := [some (.str s), none]) (show 1 < 2 by omega) S
  unfold isNm
  by_cases c1 : (1 : Int) ≤ (s.length : Int)
  · by_cases c2 : (s.length : Int) ≤ 8
    · have c3 : (1 ≤ s.length ∧ s.length ≤ 8) := by omega
      simp [F_is_name, body, d_is_name, g1, g2, isi_str, len_s hl, c1, c2, dLc, iStrD, -List.map_map]
      rw [e]
      simp [all_map, c3, -List.map_map]
    · have c3 : ¬ (1 ≤ s.length ∧ s.length ≤ 8) := by omega
      simp [F_is_name, body, d_is_name, g1, g2, isi_str, len_s hl, c1, c2, c3]
  · have c3 : ¬ (1 ≤ s.length ∧ s.length ≤ 8) := by omega
    simp [F_is_name, body, d_is_name, g1, g2, isi_str, len_s hl, c1, c3]
/-- the signs that are not among those of a text -/
theorem signs_out {s : Str} {Z : DE} {z : Str} (hl : s.length ≤ big) {i : Nat} {δ : Env} (hi : i < δ.length) (S : Sto) (hZ : ∀ d : D, Z ((wipeD δ [i]).set i (some d)) S = some (.ok (.str z) S)) :
    lcD [i] (gNm i) (asT (dOp notInV' (dVar i) Z)) (dVar i) (s.cps.toList.map sgn) δ S [] = some (.ok (((TL.tl s).filter fun c => !among z c).map sgn) S) := by
  have key : ∀ (l : List Nat) (acc : List D), acc.length + l.length ≤ big → lcD [i] (gNm i) (asT (dOp notInV' (dVar i) Z)) (dVar i) (l.map sgn) δ S acc = some (.ok (acc ++ (l.filter fun c => !among z c).map sgn) S) := by
    intro l
    induction l with
    | nil => intro acc _; rw [List.map_nil, List.filter_nil, List.map_nil, List.append_nil, lc_end]
    | cons c l ih =>
      intro acc h
      rw [List.length_cons] at h
      have e : ((wipeD δ [i]).set i (some (sgn c)))[i]? = some (some (sgn c)) := by
        rw [List.getElem?_set_self]
        show i < (δ.set i none).length
        rw [List.length_set]
        exact hi
      have t : asT (dOp notInV' (dVar i) Z) ((wipeD δ [i]).set i (some (sgn c))) S = some (.ok (!among z c) S) := by
        simp [e, hZ, sgn_notInB]
      have t2 : dVar i ((wipeD δ [i]).set i (some (sgn c))) S = some (.ok (sgn c) S) := by simp [e]
      show (match gNm i (sgn c) (wipeD δ [i]) S with
        | none => none
        | some δ1 => bndL (asT (dOp notInV' (dVar i) Z) δ1 S) fun b S1 => if b = true then bndL (dVar i δ1 S1) fun y S2 => if acc.length < big then lcD [i] (gNm i) (asT (dOp notInV' (dVar i) Z)) (dVar i) (l.map sgn) δ S2 (acc ++ [y]) else none
          else lcD [i] (gNm i) (asT (dOp notInV' (dVar i) Z)) (dVar i) (l.map sgn) δ S1 acc) = _
      rw [z_nm]
      dsimp only
      rw [t, bndL_ok]
      by_cases hb : among z c = true
      · rw [hb, if_neg (by decide), ih _ (by omega), List.filter_cons_of_neg (by rw [hb]; decide)]
      · have hb' : among z c = false := by simpa using hb
        rw [hb', if_pos (by decide), t2, bndL_ok, if_pos (by omega), ih _ (by rw [List.length_append, List.length_singleton]; omega), List.filter_cons_of_pos (by rw [hb']; decide), List.map_cons, List.append_assoc]
        rfl
  have e := key (TL.tl s) [] (by rw [TL.len_tl] at hl; rw [List.length_nil]; omega)
  rw [List.nil_append] at e
  exact e
theorem out_nil {z : Str} (l : List Nat) : decide (((l.filter fun c => !among z c).map sgn) = []) = l.all (among z) := by
  rw [Bool.eq_iff_iff, decide_eq_true_iff, List.map_eq_nil_iff, List.filter_eq_nil_iff, List.all_eq_true]
  simp
theorem sh_out {n : Nat} {t : Str} (h : okT n t) (p : Nat → Bool) : shDs 60 (((TL.tl t).filter p).map sgn) = true :=
  shDs_map fun c hc => sgn_ok h ((List.mem_filter.mp hc).1)
theorem lawName {n : Nat} {s : Str} (h : okT n s) (hn : n ≤ 1000000) (S : Sto) : F__law_is_name [.str s] S = some (.ok (.bl (isNm s)) S) := by
  have hl : s.length ≤ big := by have := h.1; rw [big_eq]; omega
  have e := signs_out (Z := dVar 1) (z := "abcdefghijklmnopqrstuvwxyz") hl (i := 2) (δ := [some (.str s), some (.str "abcdefghijklmnopqrstuvwxyz"), none]) (show 2 < 3 by omega) S (fun d => rfl)
  have q := eq_nil (x := .lst (((TL.tl s).filter fun c => !among "abcdefghijklmnopqrstuvwxyz" c).map sgn)) (S := S) rfl (sh_out h _)
  rw [out_nil] at q
  unfold isNm
  by_cases c1 : (0 : Int) < (s.length : Int)
  · by_cases c2 : (s.length : Int) < 9
    · have c3 : (1 ≤ s.length ∧ s.length ≤ 8) := by omega
      simp [F__law_is_name, body, d__law_is_name, g1, g2, isi_str, len_s hl, c1, c2, dLc, iStrD, -List.map_map]
      have c1' : 0 < s.length := by omega
      simp [c1', -List.map_map]
      rw [e]
      simp [q, c3, big_eq]
    · have c3 : ¬ (1 ≤ s.length ∧ s.length ≤ 8) := by omega
      have c1' : 0 < s.length := by omega
      simp [F__law_is_name, body, d__law_is_name, g1, g2, isi_str, len_s hl, c1', c2, c3]
  · have c3 : ¬ (1 ≤ s.length ∧ s.length ≤ 8) := by omega
    have c1' : ¬ 0 < s.length := by omega
    simp [F__law_is_name, body, d__law_is_name, g1, g2, isi_str, len_s hl, c1', c3]
end Cw

set_option maxRecDepth 100000
set_option maxHeartbeats 2000000
set_option linter.all false
/-! k79: numbers, pairs, letters. -/
namespace Cw
open PySem PySem.Spec PyProof.Rows L2
theorem head_cons {s : Str} (h : 1 ≤ s.length) : ∃ c r, TL.tl s = c :: r := by
  cases e : TL.tl s with
  | nil =>
    rw [TL.len_tl, e] at h
    cases h
  | cons c r => exact ⟨c, r, rfl⟩
theorem numberBy {s : Str} (hl : s.length ≤ big) (S : Sto) : F_number_by [.str s] S = some (.ok (optD (numV s)) S) := by
  have e := signs_comp (z := "0123456789") hl (i := 1) (δ := [some (.str s), none]) (show 1 < 2 by omega) S
  have ls := len_s hl
  have ha := fun S => all_map (among "0123456789") (TL.tl s) S
  generalize (TL.tl s).map (fun c => D.bl (among "0123456789" c)) = ML at e ha
  by_cases c3 : (1 ≤ s.length ∧ s.length ≤ 10)
  · have c1 : (1 : Int) ≤ (s.length : Int) := by omega
    have c2 : (s.length : Int) ≤ 10 := by omega
    by_cases hd : (TL.tl s).all (among "0123456789") = true
    · rw [hd] at ha
      obtain ⟨c, r, hc⟩ := head_cons c3.1
      have x0 := ix_str0 hc hl S
      have it := int_digs c3.1 c3.2 hd S
      by_cases h0 : s = "0"
      · have nv : numV s = some (NumText.digitsVal (TL.tl s)) := if_pos ⟨c3, hd, .inl h0⟩
        rw [nv]
        simp [F_number_by, body, d_number_by, g1, ls, c1, c2, dLc, iStrD, -List.map_map]
        rw [e]
        have h0' : (s = "0") = True := eq_true h0
        simp [ha, h0', it, optD]
      · by_cases h48 : c = 48
        · have nv : numV s = none := if_neg fun h => by
            rcases h.2.2 with z | z
            · exact h0 z
            · rw [hc, h48] at z
              exact z rfl
          rw [nv]
          have n0 : ((⟨#[c]⟩ : Str) = "0") := one_ne_zero.mpr h48
          simp [F_number_by, body, d_number_by, g1, ls, c1, c2, dLc, iStrD, -List.map_map]
          rw [e]
          simp [ha, h0, x0, n0, optD]
        · have nv : numV s = some (NumText.digitsVal (TL.tl s)) := if_pos ⟨c3, hd, .inr (by rw [hc]; intro z; exact h48 (Option.some.inj z))⟩
          rw [nv]
          have n0 : ¬ ((⟨#[c]⟩ : Str) = "0") := fun z => h48 (one_ne_zero.mp z)
          simp [F_number_by, body, d_number_by, g1, ls, c1, c2, dLc, iStrD, -List.map_map]
          rw [e]
          simp [ha, h0, x0, n0, optD, it]
    · have nv : numV s = none := if_neg fun h => hd h.2.1
      rw [nv]
      simp [F_number_by, body, d_number_by, g1, ls, c1, c2, dLc, iStrD, -List.map_map]
      rw [e]
      have hd' : (TL.tl s).all (among "0123456789") = false := by simpa using hd
      rw [hd'] at ha
      simp [ha, optD]
  · have nv : numV s = none := if_neg fun h => c3 h.1
    rw [nv]
    by_cases c1 : (1 : Int) ≤ (s.length : Int)
    · have c2 : ¬ (s.length : Int) ≤ 10 := by omega
      simp [F_number_by, body, d_number_by, g1, ls, c1, c2, optD]
    · simp [F_number_by, body, d_number_by, g1, ls, c1, optD]
theorem lawNumber {n : Nat} {s : Str} (h : okT n s) (hn : n ≤ 1000000) (S : Sto) : F__law_number_in [.str s] S = some (.ok (.int ((numV s).getD (-1))) S) := by
  have hl : s.length ≤ big := by have := h.1; rw [big_eq]; omega
  have e := signs_out (Z := dC (.str "0123456789")) (z := "0123456789") hl (i := 1) (δ := [some (.str s), none]) (show 1 < 2 by omega) S (fun d => rfl)
  have q := ne_nil (x := .lst (((TL.tl s).filter fun c => !among "0123456789" c).map sgn)) (S := S) rfl (sh_out h _)
  rw [out_nil] at q
  have ls := len_s hl
  by_cases c3 : (1 ≤ s.length ∧ s.length ≤ 10)
  · have c1 : 0 < s.length := by omega
    have c2 : (s.length : Int) < 11 := by omega
    by_cases hd : (TL.tl s).all (among "0123456789") = true
    · rw [hd] at q
      obtain ⟨c, r, hc⟩ := head_cons c3.1
      have x0 := ix_str0 hc hl S
      have it := int_digs c3.1 c3.2 hd S
      by_cases h0 : s = "0"
      · have nv : numV s = some (NumText.digitsVal (TL.tl s)) := if_pos ⟨c3, hd, .inl h0⟩
        rw [nv]
        simp [F__law_number_in, body, d__law_number_in, g1, ls, c1, c2, dLc, iStrD, -List.map_map]
        rw [e]
        have h0' : (s = "0") = True := eq_true h0
        simp [q, big_eq, h0', it]
      · by_cases h48 : c = 48
        · have nv : numV s = none := if_neg fun h => by
            rcases h.2.2 with z | z
            · exact h0 z
            · rw [hc, h48] at z
              exact z rfl
          rw [nv]
          have n0 : ((⟨#[c]⟩ : Str) = "0") := one_ne_zero.mpr h48
          simp [F__law_number_in, body, d__law_number_in, g1, ls, c1, c2, dLc, iStrD, -List.map_map]
          rw [e]
          simp [q, big_eq, h0, x0, n0, negV]
        · have nv : numV s = some (NumText.digitsVal (TL.tl s)) := if_pos ⟨c3, hd, .inr (by rw [hc]; intro z; exact h48 (Option.some.inj z))⟩
          rw [nv]
          have n0 : ¬ ((⟨#[c]⟩ : Str) = "0") := fun z => h48 (one_ne_zero.mp z)
          simp [F__law_number_in, body, d__law_number_in, g1, ls, c1, c2, dLc, iStrD, -List.map_map]
          rw [e]
          simp [q, big_eq, h0, x0, n0, it]
    · have nv : numV s = none := if_neg fun h => hd h.2.1
      rw [nv]
      have hd' : (TL.tl s).all (among "0123456789") = false := by simpa using hd
      rw [hd'] at q
      simp [F__law_number_in, body, d__law_number_in, g1, ls, c1, c2, dLc, iStrD, -List.map_map]
      rw [e]
      simp [q, big_eq, negV]
  · have nv : numV s = none := if_neg fun h => c3 h.1
    rw [nv]
    by_cases c1 : 0 < s.length
    · have c2 : ¬ (s.length : Int) < 11 := by omega
      simp [F__law_number_in, body, d__law_number_in, g1, ls, c1, c2, negV]
    · simp [F__law_number_in, body, d__law_number_in, g1, ls, c1, negV]
end Cw

set_option maxRecDepth 100000
set_option maxHeartbeats 2000000
set_option linter.all false
/-! k79: what is a letter, by the program. -/
namespace Cw
open PySem PySem.Spec PyProof.Rows L2
theorem kit6 : kitB "NoneType" "int" = some false := by decide +kernel
theorem kit7 : kitB "NoneType" "str" = some false := by decide +kernel
theorem isi_nonI (S : Sto) : isiV .non (.ty "int") S = some (.bl false, S) := by
  simp [isiV, tyName, kit6]
theorem isWorthI (i : Int) (S : Sto) : F_is_worth [.int i] S = some (.ok (.bl (decide (0 ≤ i ∧ i ≤ 9999))) S) := by
  by_cases h1 : 0 ≤ i
  · by_cases h2 : i ≤ 9999 <;> simp [F_is_worth, body, d_is_worth, g2, isi_int, isi_intb, h1, h2]
  · simp [F_is_worth, body, d_is_worth, g2, isi_int, isi_intb, h1]
theorem isWorthN (S : Sto) : F_is_worth [.non] S = some (.ok (.bl false) S) := by
  simp [F_is_worth, body, d_is_worth, g2, isi_nonI]
theorem lawWorth (i : Int) (S : Sto) : F__law_is_worth [.int i] S = some (.ok (.bl (decide (0 ≤ i ∧ i ≤ 9999))) S) := by
  by_cases h1 : 0 ≤ i
  · by_cases h2 : i ≤ 9999 <;> simp [F__law_is_worth, body, d__law_is_worth, g2, isi_int, isi_intb, h1, h2]
  · simp [F__law_is_worth, body, d__law_is_worth, g2, isi_int, isi_intb, h1]
theorem isCount (i l : Int) (S : Sto) : F_is_count [.int i, .int l] S = some (.ok (.bl (decide (l ≤ i))) S) := by
  simp [F_is_count, body, d_is_count, g2, isi_int, isi_intb]
/-- a kind and a worth, or none -/
abbrev PO := Str × Option Int
def pairO (q : PO) : D := .tup [.str q.1, optD q.2]
def wOk : Option Int → Bool
  | none => false
  | some i => decide (0 ≤ i ∧ i ≤ 9999)
def pOk (q : PO) : Bool := isNm q.1 && wOk q.2
theorem isPairO {q : PO} (hl : q.1.length ≤ big) (S : Sto) : F_is_pair [pairO q] S = some (.ok (.bl (pOk q)) S) := by
  obtain ⟨k, o⟩ := q
  have x0 : ∀ S, ixV (pairO (k, o)) (.int 0) S = some (.str k, S) := fun S => rfl
  have x1 : ∀ S, ixV (pairO (k, o)) (.int 1) S = some (optD o, S) := fun S => rfl
  have i0 : ∀ S, isiV (pairO (k, o)) (.ty "tuple") S = some (.bl true, S) := fun S => isi_tup _ S
  have n0 : ∀ S, len1 (pairO (k, o)) S = some (.int 2, S) := fun S => rfl
  have w : F_is_worth [optD o] S = some (.ok (.bl (wOk o)) S) := by
    cases o with
    | none => exact isWorthN S
    | some i => exact isWorthI i S
  simp only at hl
  have nm := isName hl S
  unfold pOk
  generalize pairO (k, o) = pd at x0 x1 i0 n0 ⊢
  simp only
  cases hb : isNm k with
  | false =>
    rw [hb] at nm
    simp [F_is_pair, body, d_is_pair, g1, g2, i0, n0, x0, nm]
  | true =>
    rw [hb] at nm
    simp [F_is_pair, body, d_is_pair, g1, g2, i0, n0, x0, nm, x1, w]
/-- the distinct kinds -/
theorem hasK_strs (us : List Str) (k : Str) : hasK (us.map Sum.inr) (.inr k) = us.any (· == k) := by
  unfold hasK
  rw [List.any_map]
  congr 1
  funext x
  show decide ((Sum.inr x : Key) = Sum.inr k) = (x == k)
  by_cases h : x = k
  · subst h; simp
  · have : (x == k) = false := by simpa using h
    rw [this]
    simpa using h
theorem sk_kinds {S : Sto} {x y1 y2 y3 : Option D} : ∀ (qs : List PO) {us : List Str}, us.length + qs.length ≤ 1000 →
    skD [2, 3] (gSeq 2 (gsCons (gNm 2) (gsCons (gNm 3) (gsNil)))) tYesD (dVar 2) (qs.map pairO) [x, y1, y2, y3] S (us.map Sum.inr) = some (.ok (((qs.map (·.1)).foldl ustep us).map Sum.inr) S)
  | [], us, _ => rfl
  | q :: qs, us, hl => by
    rw [List.length_cons] at hl
    have ul : (ustep us q.1).length ≤ us.length + 1 := by
      unfold ustep
      split
      · omega
      · simp
    have ih := sk_kinds (S := S) (x := x) (y1 := y1) (y2 := y2) (y3 := y3) qs (us := ustep us q.1) (by omega)
    rw [List.map_cons, sk_at (δ1 := [x, y1, some (.str q.1), some (optD q.2)]) (y := .str q.1) (key := .inr q.1) rfl rfl rfl (by rw [List.length_map]; omega), hasK_strs]
    rw [List.map_cons, List.foldl_cons, ← ih]
    congr 1
    unfold ustep
    by_cases h : us.any (· == q.1) = true
    · rw [if_pos h, if_pos h]
    · rw [if_neg h, if_neg h, List.map_append]
      rfl
def arePs (qs : List PO) : Bool := decide (qs.length ≤ 6) && (qs.all pOk && decide ((uS (qs.map (·.1))).length = qs.length))
theorem arePairs {qs : List PO} (hk : ∀ q ∈ qs, q.1.length ≤ big) (hl : qs.length ≤ 1000000) (S : Sto) : F_are_pairs [.tup (qs.map pairO)] S = some (.ok (.bl (arePs qs)) S) := by
  have st : still (.tup (qs.map pairO)) = some (qs.map pairO) := rfl
  have i0 : ∀ S, isiV (.tup (qs.map pairO)) (.ty "tuple") S = some (.bl true, S) := fun S => isi_tup _ S
  have n0 : ∀ S, len1 (.tup (qs.map pairO)) S = some (.int qs.length, S) := fun S => by rw [len_t, List.length_map]
  unfold arePs
  by_cases h6 : qs.length ≤ 6
  · have h6' : ¬ (6 : Int) < (qs.length : Int) := by omega
    have e : lcD [1] (gNm 1) tYesD (dCall F_is_pair 1 [] (aCons (dVar 1) (aNil))) (qs.map pairO) [some (.tup (qs.map pairO)), none, none, none] S [] = some (.ok (qs.map fun q => D.bl (pOk q)) S) := by
      have key : ∀ (l : List PO) (acc : List D) (z : Option D), (∀ q ∈ l, q.1.length ≤ big) → acc.length + l.length ≤ 100 → lcD [1] (gNm 1) tYesD (dCall F_is_pair 1 [] (aCons (dVar 1) (aNil))) (l.map pairO) [z, none, none, none] S acc = some (.ok (acc ++ l.map fun q => D.bl (pOk q)) S) := by
        intro l
        induction l with
        | nil => intro acc z _ _; rw [List.map_nil, List.map_nil, List.append_nil, lc_end]
        | cons q l ih =>
          intro acc z h hl
          rw [List.length_cons] at hl
          have t : dCall F_is_pair 1 [] (aCons (dVar 1) (aNil)) ((wipeD [z, none, none, none] [1]).set 1 (some (pairO q))) S = some (.ok (.bl (pOk q)) S) := by
            simp [wipeD, isPairO (h q List.mem_cons_self)]
          rw [List.map_cons, lc_nm, t, bndL_ok, if_pos (by rw [big_eq]; omega), ih _ _ (fun v hv => h v (List.mem_cons_of_mem _ hv)) (by rw [List.length_append, List.length_singleton]; omega), List.append_assoc]
          rfl
      have z := key qs [] (some (.tup (qs.map pairO))) hk (by show 0 + qs.length ≤ 100; omega)
      rw [List.nil_append] at z
      exact z
    have e2 := sk_kinds (S := S) (x := some (.tup (qs.map pairO))) (y1 := none) (y2 := none) (y3 := none) qs (us := []) (by show 0 + qs.length ≤ 1000; omega)
    have ha := all_map pOk qs S
    rw [List.map_nil] at e2
    have u : uS (qs.map (·.1)) = (qs.map (·.1)).foldl ustep [] := rfl
    generalize (qs.map fun q => D.bl (pOk q)) = ML at e ha
    generalize D.tup (qs.map pairO) = td at st i0 n0 e e2 ⊢
    cases hb : qs.all pOk with
    | false =>
      rw [hb] at ha
      simp [F_are_pairs, body, d_are_pairs, g1, g2, i0, n0, h6', dLc, iSeq, st]
      rw [e]
      simp [ha]
    | true =>
      rw [hb] at ha
      simp [F_are_pairs, body, d_are_pairs, g1, g2, i0, n0, h6', dLc, iSeq, st]
      rw [e]
      simp [ha, dLenSk, iSeq, st]
      rw [e2]
      simp [n0, h6, u]
      omega
  · have h6' : (6 : Int) < (qs.length : Int) := by omega
    generalize D.tup (qs.map pairO) = td at st i0 n0 ⊢
    simp [F_are_pairs, body, d_are_pairs, g1, g2, i0, n0, h6', h6]
theorem eq_tnil {ds : List D} {S : Sto} (h : shDs 60 ds = true) : eqV' (.tup ds) (.tup []) S = some (.bl (decide (ds = [])), S) := by
  obtain ⟨xs, h1, h2, h3⟩ := shDs_py h
  have hp : pyS S (.tup ds) = some (.tuple xs) := by
    show (pys ds).map PyData.tuple = _
    rw [h1]
    rfl
  have hs : SeqAt.shaped (.tuple xs) = true := by
    unfold SeqAt.shaped
    rw [Bool.and_eq_true]
    refine ⟨h2, decide_eq_true ?_⟩
    show PyData.depthAll xs + 1 ≤ 64
    omega
  unfold eqV' eqvV
  rw [show eqs (.tup ds) (.tup []) = none from rfl, hp]
  show (if SeqAt.shaped (PyData.tuple xs) = true ∧ SeqAt.shaped (PyData.tuple []) = true then some (PyData.eqv (.tuple xs) (.tuple [])) else none).map _ = _
  rw [if_pos ⟨hs, by decide +kernel⟩]
  show some (D.bl (PyData.eqvAll xs []), S) = _
  rw [pys_nil_iff h1]
end Cw

set_option maxRecDepth 100000
set_option maxHeartbeats 2000000
set_option linter.all false
/-! k79: a letter read. -/
namespace Cw
open PySem PySem.Spec PyProof.Rows L2
def NUMB : List Str := ["ask", "yes", "no", "rather"]
def BARE : List Str := ["bye", "here", "there"]
def isLt (who word : Str) (a b c : Int) (qs : List PO) : Bool :=
  isNm who && (decide (1 ≤ a) && (decide (0 ≤ b) && (if word ∈ NUMB then decide (1 ≤ c) && arePs qs else decide (word ∈ BARE) && (decide (0 ≤ c) && (decide (c = 0) && decide (qs = []))))))
def ltrD (who word : Str) (a b c : Int) (qs : List PO) : D := .tup [.str who, .str word, .int a, .int b, .int c, .tup (qs.map pairO)]
theorem sh_pairO {q : PO} {n : Nat} (h : okT n q.1) : shD 60 (pairO q) = true := by
  show (PyData.strOk q.1 && (shD 59 (optD q.2) && true)) = true
  rw [h.strOk]
  cases q.2 <;> rfl
theorem sh_pairs {qs : List PO} {n : Nat} (h : ∀ q ∈ qs, okT n q.1) : shDs 60 (qs.map pairO) = true := shDs_map fun q hq => sh_pairO (h q hq)
theorem map_nil_dec (qs : List PO) : decide (qs.map pairO = []) = decide (qs = []) := by
  cases qs <;> rfl
theorem isLetter {who word : Str} {a b c : Int} {qs : List PO} {n : Nat} (hn : n ≤ 1000000) (hw : okT n who) (hq : ∀ q ∈ qs, okT n q.1) (hl : qs.length ≤ 1000000) (S : Sto) :
    F_is_letter [ltrD who word a b c qs] S = some (.ok (.bl (isLt who word a b c qs)) S) := by
  have nm := isName (s := who) (by have := hw.1; rw [big_eq]; omega) S
  have ap := arePairs (qs := qs) (fun q h => by have := (hq q h).1; rw [big_eq]; omega) hl S
  have en := eq_tnil (S := S) (sh_pairs hq)
  rw [map_nil_dec] at en
  have it : items S (ltrD who word a b c qs) = some [.str who, .str word, .int a, .int b, .int c, .tup (qs.map pairO)] := rfl
  have i0 : ∀ S, isiV (ltrD who word a b c qs) (.ty "tuple") S = some (.bl true, S) := fun S => isi_tup _ S
  have n0 : ∀ S, len1 (ltrD who word a b c qs) S = some (.int 6, S) := fun S => rfl
  have i1 : ∀ S, isiV (.tup (qs.map pairO)) (.ty "tuple") S = some (.bl true, S) := fun S => isi_tup _ S
  have w1 : ∀ S, inV' (.str word) (.tup [.str "ask", .str "yes", .str "no", .str "rather"]) S = some (.bl (decide (word ∈ NUMB)), S) := fun S => in_tupS (ks := NUMB)
  have w2 : ∀ S, inV' (.str word) (.tup [.str "bye", .str "here", .str "there"]) S = some (.bl (decide (word ∈ BARE)), S) := fun S => in_tupS (ks := BARE)
  unfold isLt
  generalize ltrD who word a b c qs = ld at it i0 n0 ⊢
  generalize D.tup (qs.map pairO) = pd at ap en it i1
  cases h1 : isNm who with
  | false =>
    rw [h1] at nm
    simp [F_is_letter, body, d_is_letter, g1, g2, i0, n0, gSeq, it, gsCons, gsNil, nm]
  | true =>
    rw [h1] at nm
    by_cases h2 : 1 ≤ a
    · by_cases h3 : 0 ≤ b
      · by_cases h4 : word ∈ NUMB
        · by_cases h5 : 1 ≤ c
          · simp [F_is_letter, body, d_is_letter, g1, g2, i0, n0, gSeq, it, gsCons, gsNil, nm, isi_str, isCount, h2, h3, w1, h4, h5, ap]
          · simp [F_is_letter, body, d_is_letter, g1, g2, i0, n0, gSeq, it, gsCons, gsNil, nm, isi_str, isCount, h2, h3, w1, h4, h5]
        · by_cases h5 : word ∈ BARE
          · by_cases h6 : 0 ≤ c
            · by_cases h7 : c = 0
              · simp [F_is_letter, body, d_is_letter, g1, g2, i0, n0, gSeq, it, gsCons, gsNil, nm, isi_str, isCount, h2, h3, w1, h4, w2, h5, h6, h7, i1, en]
              · simp [F_is_letter, body, d_is_letter, g1, g2, i0, n0, gSeq, it, gsCons, gsNil, nm, isi_str, isCount, h2, h3, w1, h4, w2, h5, h6, h7]
            · simp [F_is_letter, body, d_is_letter, g1, g2, i0, n0, gSeq, it, gsCons, gsNil, nm, isi_str, isCount, h2, h3, w1, h4, w2, h5, h6]
          · simp [F_is_letter, body, d_is_letter, g1, g2, i0, n0, gSeq, it, gsCons, gsNil, nm, isi_str, isCount, h2, h3, w1, h4, w2, h5]
      · simp [F_is_letter, body, d_is_letter, g1, g2, i0, n0, gSeq, it, gsCons, gsNil, nm, isi_str, isCount, h2, h3]
    · simp [F_is_letter, body, d_is_letter, g1, g2, i0, n0, gSeq, it, gsCons, gsNil, nm, isi_str, isCount, h2]

/-! ### pairs of words -/
def pairBy (w : Str) : Option PO := match Txt.split w "=" with
  | [a, b] => some (a, numV b)
  | _ => none
def pD : Option PO → D
  | none => .non
  | some q => pairO q
theorem pairBy_ok {n : Nat} {w : Str} (h : okT n w) (hn : n ≤ 100000) (S : Sto) : F_pair_by [.str w] S = some (.ok (pD (pairBy w)) S) := by
  have sp := split_ok (a := w) (b := "=") (by decide +kernel) (by have := h.1; rw [big_eq]; omega) S
  have fk : ∀ x ∈ Txt.split w "=", okT n x := fun x hx => h.split sep_eq (by decide) hx
  unfold pairBy
  generalize Txt.split w "=" = ps at sp fk
  match ps, sp, fk with
  | [], sp, _ => simp [F_pair_by, body, d_pair_by, ty_str, sp, g1, pD]
  | [a], sp, _ => simp [F_pair_by, body, d_pair_by, ty_str, sp, g1, pD]
  | [a, b], sp, fk =>
    have nb := numberBy (s := b) (by have := (fk b (by simp)).1; rw [big_eq]; omega) S
    have x0 : ∀ S, ixV (.lst [.str a, .str b]) (.int 0) S = some (.str a, S) := fun S => rfl
    have x1 : ∀ S, ixV (.lst [.str a, .str b]) (.int 1) S = some (.str b, S) := fun S => rfl
    simp [F_pair_by, body, d_pair_by, ty_str, sp, g1, x0, x1, nb, pD, pairO, big_eq]
  | a :: b :: c :: r, sp, _ =>
    have z : ¬ ((r.length : Int) + 1 + 1 + 1 = 2) := by omega
    simp [F_pair_by, body, d_pair_by, ty_str, sp, g1, pD, z]
theorem pairBy_okT {n : Nat} {w : Str} (h : okT n w) {q : PO} (e : pairBy w = some q) : okT n q.1 := by
  have fk : ∀ x ∈ Txt.split w "=", okT n x := fun x hx => h.split sep_eq (by decide) hx
  unfold pairBy at e
  generalize Txt.split w "=" = ps at e fk
  match ps, e, fk with
  | [a, b], e, fk =>
    cases e
    exact fk a (by simp)

/-! ### None among others -/
theorem none_nums (os : List (Option Int)) (S : Sto) : notInV' .non (.lst (os.map optD)) S = some (.bl (!os.any Option.isNone), S) := by
  have hf : flatD .non = true ∧ (os.map optD).all flatD = true := ⟨rfl, by
    rw [List.all_map]
    exact List.all_eq_true.mpr fun x _ => by cases x <;> rfl⟩
  have e : inB S .non (.lst (os.map optD)) = some (inF .non (os.map optD)) := by
    show (if flatD .non = true ∧ (os.map optD).all flatD = true then some (inF .non (os.map optD)) else inDeep S .non (os.map optD)) = _
    exact if_pos hf
  have f : inF .non (os.map optD) = os.any Option.isNone := by
    unfold inF
    rw [List.any_map]
    congr 1
    funext x
    cases x <;> rfl
  show (inB S .non (.lst (os.map optD))).map _ = _
  rw [e, f]
  rfl
def pyP : Option PO → PyData
  | none => .none
  | some (k, none) => .tuple [.str k, .none]
  | some (k, some i) => .tuple [.str k, .int i]
theorem pys_pD : ∀ ps : List (Option PO), pys (ps.map pD) = some (ps.map pyP)
  | [] => rfl
  | p :: ps => by
    show (match py (pD p), pys (ps.map pD) with | some x, some xs => some (x :: xs) | _, _ => none) = _
    rw [pys_pD ps]
    rcases p with _ | ⟨k, _ | i⟩ <;> rfl
theorem none_pairs {n : Nat} {ps : List (Option PO)} (h : ∀ q, some q ∈ ps → okT n q.1) (S : Sto) : notInV' .non (.tup (ps.map pD)) S = some (.bl (!ps.any Option.isNone), S) := by
  have sh : shDs 60 (ps.map pD) = true := shDs_map fun p hp => by
    cases p with
    | none => rfl
    | some q => exact sh_pairO (h q hp)
  have e : inB S .non (.tup (ps.map pD)) = some (ps.any Option.isNone) := by
    show (if flatD .non = true ∧ (ps.map pD).all flatD = true then some (inF .non (ps.map pD)) else inDeep S .non (ps.map pD)) = _
    by_cases hf : flatD .non = true ∧ (ps.map pD).all flatD = true
    · rw [if_pos hf]
      congr 1
      have h2 := hf.2
      rw [List.all_map] at h2
      unfold inF
      rw [List.any_map]
      rw [Bool.eq_iff_iff, List.any_eq_true, List.any_eq_true]
      constructor
      · rintro ⟨x, hx, _⟩
        refine ⟨x, hx, ?_⟩
        have z := List.all_eq_true.mp h2 x hx
        cases x with
        | none => rfl
        | some q => cases z
      · rintro ⟨x, hx, e⟩
        refine ⟨x, hx, ?_⟩
        cases x with
        | none => rfl
        | some q => cases e
    · rw [if_neg hf]
      obtain ⟨xs, h1, h2, h3⟩ := shDs_py sh
      rw [pys_pD] at h1
      cases h1
      have hs : SeqAt.shaped (.list (ps.map pyP)) = true := by
        unfold SeqAt.shaped
        rw [Bool.and_eq_true]
        refine ⟨h2, decide_eq_true ?_⟩
        show PyData.depthAll (ps.map pyP) + 1 ≤ 64
        omega
      show (match pyS S .non, pys (ps.map pD) with
        | some d, some es => if SeqAt.shaped d = true ∧ SeqAt.shaped (.list es) = true then some (es.any fun z => PyData.eqv z d) else none
        | _, _ => none) = _
      rw [pys_pD]
      show (if SeqAt.shaped .none = true ∧ SeqAt.shaped (.list (ps.map pyP)) = true then some ((ps.map pyP).any fun z => PyData.eqv z .none) else none) = _
      rw [if_pos ⟨by decide +kernel, hs⟩, List.any_map]
      congr 2
      funext x
      rcases x with _ | ⟨k, _ | i⟩ <;> rfl
  show (inB S .non (.tup (ps.map pD))).map _ = _
  rw [e]
  rfl
end Cw

set_option maxRecDepth 100000
set_option maxHeartbeats 2000000
set_option linter.all false
/-! k79: read_letter. -/
namespace Cw
open PySem PySem.Spec PyProof.Rows L2
def XT (d : D) : Exn := ⟨"NoText", some ("line", d)⟩
theorem need0 (b : Bool) (S : Sto) : F_need [.bl b, .int 0] S = if b = true then some (.ok .non S) else some (.exc (XT (.int 0)) S) := by
  cases b <;> simp [F_need, body, d_need, sRaiseI, XT]
theorem needText (s : Str) (S : Sto) : F_need_text [.str s] S = some (.ok .non S) := by
  simp [F_need_text, body, d_need_text, g2, isi_str]
theorem needTextN {d : D} {S : Sto} (h : isiV d (.ty "str") S = some (.bl false, S)) : F_need_text [d] S = some (.exc (XT .non) S) := by
  simp [F_need_text, body, d_need_text, g2, h, sRaiseI, XT]
theorem comp_strs {F : Fn} {f : Str → D} {i : Nat} {δ : Env} {S : Sto} (hi : i < δ.length) {l : List Str} (h : ∀ s ∈ l, F [.str s] S = some (.ok (f s) S)) (hl : l.length ≤ big) :
    lcD [i] (gNm i) tYesD (dCall F 1 [] (aCons (dVar i) (aNil))) (l.map .str) δ S [] = some (.ok (l.map f) S) := by
  have key : ∀ (l : List Str) (acc : List D), (∀ s ∈ l, F [.str s] S = some (.ok (f s) S)) → acc.length + l.length ≤ big → lcD [i] (gNm i) tYesD (dCall F 1 [] (aCons (dVar i) (aNil))) (l.map .str) δ S acc = some (.ok (acc ++ l.map f) S) := by
    intro l
    induction l with
    | nil => intro acc _ _; rw [List.map_nil, List.map_nil, List.append_nil, lc_end]
    | cons s l ih =>
      intro acc h hl
      rw [List.length_cons] at hl
      have t : dCall F 1 [] (aCons (dVar i) (aNil)) ((wipeD δ [i]).set i (some (.str s))) S = some (.ok (f s) S) := by
        have e : ((wipeD δ [i]).set i (some (D.str s)))[i]? = some (some (.str s)) := by
          rw [List.getElem?_set_self]
          show i < (δ.set i none).length
          rw [List.length_set]
          exact hi
        simp [e, h s List.mem_cons_self]
      rw [List.map_cons, lc_nm, t, bndL_ok, if_pos (by omega), ih _ (fun v hv => h v (List.mem_cons_of_mem _ hv)) (by rw [List.length_append, List.length_singleton]; omega), List.append_assoc]
      rfl
  have z := key l [] h (by rw [List.length_nil]; omega)
  rw [List.nil_append] at z
  exact z
def sq {α : Type} : List (Option α) → Option (List α)
  | [] => some []
  | none :: _ => none
  | some x :: r => (sq r).map (x :: ·)
theorem sq_none {α : Type} : ∀ {l : List (Option α)}, sq l = none → l.any Option.isNone = true
  | [], h => by cases h
  | none :: _, _ => rfl
  | some x :: r, h => by
    cases e : sq r with
    | none =>
      rw [List.any_cons, sq_none e]
      rfl
    | some xs =>
      have h' : (sq r).map (x :: ·) = none := h
      rw [e] at h'
      cases h'
theorem sq_some {α : Type} : ∀ {l : List (Option α)} {xs : List α}, sq l = some xs → l = xs.map some
  | [], xs, h => by
    cases h
    rfl
  | none :: _, _, h => by cases h
  | some x :: r, xs, h => by
    have h' : (sq r).map (x :: ·) = some xs := h
    obtain ⟨ys, e1, e2⟩ := Option.map_eq_some_iff.mp h'
    subst e2
    rw [sq_some e1]
    rfl
theorem any_some {α : Type} (xs : List α) : (xs.map some).any Option.isNone = false := by
  induction xs with
  | nil => rfl
  | cons x xs ih => rw [List.map_cons, List.any_cons, ih]; rfl
def readV (t : Str) : Option D := match Txt.split t " " with
  | who :: word :: x :: y :: z :: r => match numV x, numV y, numV z, sq (r.map pairBy) with
    | some a, some b, some c, some qs => if isLt who word a b c qs = true then some (ltrD who word a b c qs) else none
    | _, _, _, _ => none
  | _ => none
def outR (S : Sto) : Option D → Option (Out D)
  | some d => some (.ok d S)
  | none => some (.exc (XT (.int 0)) S)
theorem readLetter {n : Nat} {t : Str} (ht : okT n t) (hn : n ≤ 100000) (S : Sto) : F_read_letter [.str t] S = outR S (readV t) := by
  obtain ⟨f1, f2, _⟩ := split_facts (t := t) sep_sp (by decide)
  have fk : ∀ w ∈ Txt.split t " ", okT n w := fun w hw => ht.split sep_sp (by decide) hw
  have sp := split_ok (a := t) (b := " ") (by decide +kernel) (by have := ht.1; rw [big_eq]; omega) S
  have hlen : (Txt.split t " ").length ≤ n + 1 := by have := wt_len (Txt.split t " "); have := ht.1; omega
  unfold readV
  generalize Txt.split t " " = Ws at f1 fk sp hlen
  have short : ∀ who ws, Ws = who :: ws → ws.length ≤ 3 → F_read_letter [.str t] S = some (.exc (XT (.int 0)) S) := fun who ws e h => by
    subst e
    have g : ¬ ((3 : Int) < (ws.length : Int)) := by omega
    rw [List.map_cons] at sp
    simp [F_read_letter, body, d_read_letter, needText, ty_str, sp, gStar, lsOf, lstOf, star1, gsCons, gsNil, g1, g, need0]
  match Ws, f1, fk, sp, hlen, short with
  | [], f1, _, _, _, _ => exact absurd rfl f1
  | [a], _, _, _, _, short => exact short _ _ rfl (by simp)
  | [a, b], _, _, _, _, short => exact short _ _ rfl (by simp)
  | [a, b, c], _, _, _, _, short => exact short _ _ rfl (by simp)
  | [a, b, c, d], _, _, _, _, short => exact short _ _ rfl (by simp)
  | who :: word :: x :: y :: z :: r, _, fk, sp, hlen, _ =>
    simp only [List.length_cons] at hlen
    have kb : ∀ w ∈ (who :: word :: x :: y :: z :: r : List Str), w.length ≤ big := fun w hw => by have := (fk w hw).1; rw [big_eq]; omega
    have e1 := comp_strs (F := F_number_by) (f := fun s => optD (numV s)) (i := 11) (δ := [some (.str t), some (.str who), some (.lst ((word :: x :: y :: z :: r).map .str)), some (.str word), some (.lst ((x :: y :: z :: r).map .str)), none, none, none, none, none, none, none]) (S := S) (show 11 < 12 by omega) (l := [x, y, z]) (fun s hs => numberBy (kb s (by simp only [List.mem_cons, List.not_mem_nil, or_false] at hs ⊢; rcases hs with e | e | e <;> simp [e])) S) (by rw [big_eq]; show 3 ≤ 1000000; omega)
    have e2 := comp_strs (F := F_pair_by) (f := fun s => pD (pairBy s)) (i := 11) (δ := [some (.str t), some (.str who), some (.lst ((word :: x :: y :: z :: r).map .str)), some (.str word), some (.lst ((x :: y :: z :: r).map .str)), some (.lst [optD (numV x), optD (numV y), optD (numV z)]), none, none, none, none, none, none]) (S := S) (show 11 < 12 by omega) (l := r) (fun s hs => pairBy_ok (fk s (by simp [hs])) hn S) (by rw [big_eq]; omega)
    have s1 : ∀ S, slV (.lst ((x :: y :: z :: r).map .str)) none (some 3) S = some (.lst ([x, y, z].map .str), S) := fun S => slTo (l := x :: y :: z :: r) (n := 3)
    have s2 : ∀ S, slV (.lst ((x :: y :: z :: r).map .str)) (some 3) none S = some (.lst (r.map .str), S) := fun S => slFrom (l := x :: y :: z :: r) (n := 3) (by simp)
    have nn : notInV' .non (.lst [optD (numV x), optD (numV y), optD (numV z)]) S = some (.bl (!([numV x, numV y, numV z].any Option.isNone)), S) := none_nums [numV x, numV y, numV z] S
    have np := none_pairs (n := n) (ps := r.map pairBy) (fun q hq => by
      obtain ⟨w, hw, e⟩ := List.mem_map.mp hq
      exact pairBy_okT (fk w (by simp [hw])) e) S
    have mp : (r.map fun s => pD (pairBy s)) = (r.map pairBy).map pD := by rw [List.map_map]; rfl
    rw [mp] at e2
    have okq : ∀ qs, sq (r.map pairBy) = some qs → ∀ q ∈ qs, okT n q.1 := fun qs e q hq => by
      have z := sq_some e
      have hm : some q ∈ r.map pairBy := by rw [z]; exact List.mem_map.mpr ⟨q, hq, rfl⟩
      obtain ⟨w, hw, e⟩ := List.mem_map.mp hm
      exact pairBy_okT (fk w (by simp [hw])) e
    have lq : ∀ qs, sq (r.map pairBy) = some qs → qs.length ≤ 1000000 := fun qs e => by
      have z := congrArg List.length (sq_some e)
      rw [List.length_map, List.length_map] at z
      omega
    have il := fun a b c qs e => isLetter (who := who) (word := word) (a := a) (b := b) (c := c) (qs := qs) (n := n) (by omega) (fk who (by simp)) (okq qs e) (lq qs e) S
    have pn : ∀ o : Option (List PO), o = sq (r.map pairBy) → notInV' .non (.tup ((r.map pairBy).map pD)) S = some (.bl o.isSome, S) := fun o e => by
      rw [np]
      cases o with
      | none => rw [sq_none e.symm]; rfl
      | some qs => rw [sq_some e.symm, any_some]; rfl
    have dq : ∀ qs, sq (r.map pairBy) = some qs → (r.map pairBy).map pD = qs.map pairO := fun qs e => by
      rw [sq_some e, List.map_map]
      rfl
    have g : ∀ k : Nat, (3 : Int) < (k : Int) + 1 + 1 + 1 + 1 := fun k => by omega
    have tl1 : ∀ S, tuple1 (.lst ((r.map pairBy).map pD)) S = some (.tup ((r.map pairBy).map pD), S) := fun S => rfl
    simp only [List.map_cons, List.map_nil] at e1 s1 s2 e2 sp
    have st : ∀ l : List D, still (.lst l) = some l := fun l => rfl
    generalize (r.map pairBy).map pD = PD at e2 pn dq tl1 np
    generalize hr : r.map D.str = RD at e1 s1 s2 e2 sp
    have hrl : RD.length = r.length := by rw [← hr, List.length_map]
    cases ea : numV x with
    | none =>
      rw [ea] at e1 nn e2
      simp [F_read_letter, body, d_read_letter, needText, ty_str, sp, gStar, lsOf, lstOf, star1, gsCons, gsNil, g1, g, need0, dLc, iSeq, s1, st]
      rw [e1]
      simp [s2, st, dLc, iSeq]
      rw [e2]
      simp [tl1, nn, outR, need0, ea]
    | some a =>
      cases eb : numV y with
      | none =>
        rw [ea, eb] at e1 nn e2
        simp [F_read_letter, body, d_read_letter, needText, ty_str, sp, gStar, lsOf, lstOf, star1, gsCons, gsNil, g1, g, need0, dLc, iSeq, s1, st]
        rw [e1]
        simp [s2, st, dLc, iSeq]
        rw [e2]
        simp [tl1, nn, outR, need0, ea, eb]
      | some b =>
        cases ec : numV z with
        | none =>
          rw [ea, eb, ec] at e1 nn e2
          simp [F_read_letter, body, d_read_letter, needText, ty_str, sp, gStar, lsOf, lstOf, star1, gsCons, gsNil, g1, g, need0, dLc, iSeq, s1, st]
          rw [e1]
          simp [s2, st, dLc, iSeq]
          rw [e2]
          simp [tl1, nn, outR, need0, ea, eb, ec]
        | some c =>
          rw [ea, eb, ec] at e1 nn e2
          cases eq : sq (r.map pairBy) with
          | none =>
            have pn' := pn none eq.symm
            simp [F_read_letter, body, d_read_letter, needText, ty_str, sp, gStar, lsOf, lstOf, star1, gsCons, gsNil, g1, g, need0, dLc, iSeq, s1, st]
            rw [e1]
            simp [s2, st, dLc, iSeq]
            rw [e2]
            simp [tl1, nn, pn', outR, need0, ea, eb, ec, eq]
          | some qs =>
            have pn' := pn (some qs) eq.symm
            have il' := il a b c qs eq
            rw [dq qs eq] at tl1 pn' e2
            have it : ∀ S, items S (.lst [optD (some a), optD (some b), optD (some c)]) = some [.int a, .int b, .int c] := fun S => rfl
            have ld : D.tup [.str who, .str word, .int a, .int b, .int c, .tup (qs.map pairO)] = ltrD who word a b c qs := rfl
            simp [F_read_letter, body, d_read_letter, needText, ty_str, sp, gStar, lsOf, lstOf, star1, gsCons, gsNil, g1, g, need0, dLc, iSeq, s1, st]
            rw [e1]
            simp [s2, st, dLc, iSeq]
            rw [e2]
            simp [tl1, nn, pn', outR, need0, gSeq, it, gsCons, gsNil, big_eq, ld, il', ea, eb, ec, eq]
            cases isLt who word a b c qs <;> simp
end Cw

set_option maxRecDepth 100000
set_option maxHeartbeats 2000000
set_option linter.all false
/-! k79: what is due, by the law's own look. -/
namespace Cw
open PySem PySem.Spec PyProof.Rows L2
def lawP (w : Str) : Option (Str × Int) := match pairBy w with
  | some (k, some i) => if isNm k = true ∧ (0 ≤ i ∧ i ≤ 9999) then some (k, i) else none
  | _ => none
theorem ix_last {l : List Str} (h : l ≠ []) (S : Sto) : ixV (.lst (l.map .str)) (.int (-1)) S = some (.str (l.getLast h), S) := by
  have hp : 0 < l.length := List.length_pos_iff.mpr h
  have e : L2.atI (l.map D.str) (-1) = some (.str (l.getLast h)) := by
    unfold L2.atI ixN
    rw [List.length_map, if_neg (by decide), if_pos (by omega)]
    have e2 : ((-1 : Int) + (l.length : Int)).toNat = l.length - 1 := by omega
    show (l.map D.str)[((-1 : Int) + (l.length : Int)).toNat]? = _
    rw [e2, List.getElem?_map, List.getElem?_eq_getElem (by omega), List.getLast_eq_getElem]
    rfl
  show (L2.atI (l.map D.str) (-1)).map (fun d => (d, S)) = _
  rw [e]
  rfl
noncomputable abbrev dTurn : DS := sSeq (sAsg (dMt "str" splitV (dVar 4) (aCons (dC (.str "=")) (aNil))) (gNm 5)) (sSeq (sAsg (dCall F__law_number_in 1 [] (aCons (dOp ixV (dVar 5) (negV (dC (.int 1)))) (aNil))) (gNm 6)) (sSeq (sIf (tOrD (asT (dOp neV' (dCB (g1 len1) (aCons (dVar 5) (aNil))) (dC (.int 2)))) (tOrD (tNotD (asT (dCall F__law_is_name 1 [] (aCons (dOp ixV (dVar 5) (dC (.int 0))) (aNil))))) (tNotD (asT (dCall F__law_is_worth 1 [] (aCons (dVar 6) (aNil))))))) (sRet (dTup (aCons (dC (.int 0)) (aNil)))) (sNext)) (sExpr (dMt "list" appendV (dVar 3) (aCons (dTup (aCons (dOp ixV (dVar 5) (dC (.int 0))) (aCons (dVar 6) (aNil)))) (aNil))))))
def T0 : D := .tup [.int 0]
theorem due_turn {n : Nat} {S : Sto} {w : Str} {ps : List (Str × Int)} {a b c y5 y6 y7 y8 : Option D} (h : okT n w) (hn : n ≤ 100000) (hl : ps.length ≤ 200000) :
    (lawP w = none ∧ dTurn [a, b, c, some (.ref S.length), some (.str w), y5, y6, y7, y8] (S ++ [.lst (ps.map pairD)]) = some (.ret T0 (S ++ [.lst (ps.map pairD)]))) ∨
    (∃ p z5 z6, lawP w = some p ∧ dTurn [a, b, c, some (.ref S.length), some (.str w), y5, y6, y7, y8] (S ++ [.lst (ps.map pairD)]) = some (.nx [a, b, c, some (.ref S.length), some (.str w), z5, z6, y7, y8] (S ++ [.lst ((ps ++ [p]).map pairD)]))) := by
  obtain ⟨f1, _, _⟩ := split_facts (t := w) sep_eq (by decide)
  have fk : ∀ x ∈ Txt.split w "=", okT n x := fun x hx => h.split sep_eq (by decide) hx
  have sp := fun S => split_ok (a := w) (b := "=") (by decide +kernel) (by have := h.1; rw [big_eq]; omega) S
  have hp : pairBy w = match Txt.split w "=" with
    | [a, b] => some (a, numV b)
    | _ => none := rfl
  unfold lawP
  rw [hp]
  generalize Txt.split w "=" = parts at f1 fk sp
  have li := fun S => ix_last f1 S
  have lm := lawNumber (fk _ (List.getLast_mem f1)) (by omega) (S ++ [Ob.lst (ps.map pairD)])
  have lw := fun i => lawWorth i (S ++ [Ob.lst (ps.map pairD)])
  match parts, f1, fk, sp, li, lm with
  | [], f1, _, _, _, _ => exact absurd rfl f1
  | [x], _, _, sp, li, lm =>
    refine .inl ⟨rfl, ?_⟩
    simp only [List.map_cons, List.map_nil, List.getLast_singleton] at sp li lm
    simp [dTurn, ty_str, sp, negV, li, lm, g1, T0, big_eq]
  | x :: y :: z :: r, f1, _, sp, li, lm =>
    refine .inl ⟨rfl, ?_⟩
    have q : ¬ ((r.length : Int) + 1 + 1 + 1 = 2) := by omega
    generalize (x :: y :: z :: r).getLast f1 = la at li lm
    simp only [List.map_cons] at sp li
    simp [dTurn, ty_str, sp, negV, li, lm, g1, T0, q, big_eq]
  | [x, y], f1, fk, sp, li, lm =>
    have nm := lawName (fk x (by simp)) (by omega) (S ++ [Ob.lst (ps.map pairD)])
    have hla : ([x, y] : List Str).getLast f1 = y := rfl
    rw [hla] at li lm
    simp only [List.map_cons, List.map_nil] at sp li
    have x0 : ∀ S, ixV (.lst [.str x, .str y]) (.int 0) S = some (.str x, S) := fun S => rfl
    have tr : tyD (S ++ [Ob.lst (ps.map pairD)]) "list" (.ref S.length) = true := ty_ref (ds := ps.map pairD) (by simp)
    have ap : ∀ i, appendV (.ref S.length) [.tup [.str x, .int i]] (S ++ [Ob.lst (ps.map pairD)]) = some (.non, S ++ [.lst ((ps ++ [(x, i)]).map pairD)]) := fun i => by
      have z := app_ref (S := S ++ [Ob.lst (ps.map pairD)]) (n := S.length) (ds := ps.map pairD) (d := pairD (x, i)) (by simp) (by rw [List.length_map, big_eq]; omega)
      rw [List.set_append_right _ _ (Nat.le_refl _), Nat.sub_self] at z
      rw [List.map_append]
      exact z
    simp only
    by_cases hnm : isNm x = true
    · rw [hnm] at nm
      cases hv : numV y with
      | none =>
        rw [hv] at lm
        refine .inl ⟨rfl, ?_⟩
        have l1 := lw (-1)
        rw [decide_eq_false (by omega)] at l1
        have lm' : F__law_number_in [.str y] (S ++ [Ob.lst (ps.map pairD)]) = some (.ok (.int (-1)) (S ++ [Ob.lst (ps.map pairD)])) := lm
        simp [dTurn, ty_str, sp, negV, li, lm', g1, T0, x0, nm, l1, big_eq]
      | some i =>
        rw [hv] at lm
        have lm' : F__law_number_in [.str y] (S ++ [Ob.lst (ps.map pairD)]) = some (.ok (.int i) (S ++ [Ob.lst (ps.map pairD)])) := lm
        have l1 := lw i
        by_cases hi : 0 ≤ i ∧ i ≤ 9999
        · rw [decide_eq_true hi] at l1
          refine .inr ⟨(x, i), some (.lst [.str x, .str y]), some (.int i), by simp [hnm, hi], ?_⟩
          simp [dTurn, ty_str, sp, negV, li, lm', g1, x0, nm, l1, big_eq, tr, -List.map_append]
          rw [ap]
          rfl
        · rw [decide_eq_false hi] at l1
          refine .inl ⟨by simp only [hnm, true_and]; exact if_neg hi, ?_⟩
          simp [dTurn, ty_str, sp, negV, li, lm', g1, T0, x0, nm, l1, big_eq]
    · have hnm' : isNm x = false := by simpa using hnm
      rw [hnm'] at nm
      refine .inl ⟨?_, ?_⟩
      · cases numV y with
        | none => rfl
        | some i => simp [hnm']
      · simp [dTurn, ty_str, sp, negV, li, lm, g1, T0, x0, nm, big_eq]
theorem due_loop {n : Nat} {S : Sto} {a b c y7 y8 : Option D} (hn : n ≤ 100000) : ∀ (r : List Str) {ps : List (Str × Int)} {y4 y5 y6 : Option D}, (∀ w ∈ r, okT n w) → ps.length + r.length ≤ 200000 →
    (sq (r.map lawP) = none ∧ ∃ S', forD (gNm 4) dTurn (r.map .str) [a, b, c, some (.ref S.length), y4, y5, y6, y7, y8] (S ++ [.lst (ps.map pairD)]) = some (.ret T0 (S ++ S'))) ∨
    (∃ qs z4 z5 z6, sq (r.map lawP) = some qs ∧ forD (gNm 4) dTurn (r.map .str) [a, b, c, some (.ref S.length), y4, y5, y6, y7, y8] (S ++ [.lst (ps.map pairD)]) = some (.nx [a, b, c, some (.ref S.length), z4, z5, z6, y7, y8] (S ++ [.lst ((ps ++ qs).map pairD)])))
  | [], ps, y4, y5, y6, _, _ => .inr ⟨[], y4, y5, y6, rfl, by rw [List.map_nil, for_nil, List.append_nil]⟩
  | w :: r, ps, y4, y5, y6, h, hl => by
    rw [List.length_cons] at hl
    rw [List.map_cons, List.map_cons, for_nm, show ([a, b, c, some (.ref S.length), y4, y5, y6, y7, y8] : Env).set 4 (some (.str w)) = [a, b, c, some (.ref S.length), some (.str w), y5, y6, y7, y8] from rfl]
    rcases due_turn (S := S) (a := a) (b := b) (c := c) (y5 := y5) (y6 := y6) (y7 := y7) (y8 := y8) (ps := ps) (h w List.mem_cons_self) hn (by omega) with ⟨e1, e2⟩ | ⟨p, z5, z6, e1, e2⟩
    · refine .inl ⟨by rw [e1]; rfl, [.lst (ps.map pairD)], ?_⟩
      rw [e2]
      rfl
    · rcases due_loop (S := S) (a := a) (b := b) (c := c) (y7 := y7) (y8 := y8) hn r (ps := ps ++ [p]) (y4 := some (.str w)) (y5 := z5) (y6 := z6) (fun v hv => h v (List.mem_cons_of_mem _ hv)) (by rw [List.length_append, List.length_singleton]; omega) with ⟨e3, S', e4⟩ | ⟨qs, v4, v5, v6, e3, e4⟩
      · refine .inl ⟨by rw [e1]; show (sq (r.map lawP)).map _ = _; rw [e3]; rfl, S', ?_⟩
        rw [e2]
        exact e4
      · refine .inr ⟨p :: qs, v4, v5, v6, by rw [e1]; show (sq (r.map lawP)).map _ = _; rw [e3]; rfl, ?_⟩
        rw [e2]
        rw [List.append_assoc] at e4
        exact e4
end Cw

set_option maxRecDepth 100000
set_option maxHeartbeats 2000000
set_option linter.all false
/-! k79: what is due is what is read. -/
namespace Cw
open PySem PySem.Spec PyProof.Rows L2
/-- the law's own word on six words and more -/
def lawV (who word : Str) (A B C : Int) (o : Option (List (Str × Int))) : Option D :=
  if isNm who = true then match o with
    | none => none
    | some ps =>
      if (¬ word ∈ BARE ∧ ¬ word ∈ NUMB) ∨ (A < 0 ∨ B < 0 ∨ C < 0) ∨ A < 1 then none
      else if (decide (word ∈ BARE) ≠ decide (C = 0)) ∨ (word ∈ BARE ∧ ps ≠ []) ∨ 6 < ps.length then none
      else if (uS (ps.map (·.1))).length < ps.length then none
      else some (ltrD who word A B C (ps.map fun p => (p.1, some p.2)))
  else none
theorem bare_numb (w : Str) : w ∈ BARE → ¬ w ∈ NUMB := by
  have : ∀ w ∈ BARE, ¬ w ∈ NUMB := by decide +kernel
  exact this w
theorem lawP_ok {w : Str} {p : Str × Int} (h : lawP w = some p) : pairBy w = some (p.1, some p.2) ∧ pOk (p.1, some p.2) = true := by
  unfold lawP at h
  split at h
  · rename_i k i e
    split at h
    · rename_i hc
      cases h
      refine ⟨e, ?_⟩
      unfold pOk wOk
      simp only [hc.1, Bool.true_and]
      exact decide_eq_true hc.2
    · cases h
  · cases h
theorem lawP_none {w : Str} (h : lawP w = none) : pairBy w = none ∨ ∃ q, pairBy w = some q ∧ pOk q = false := by
  unfold lawP at h
  split at h
  · rename_i k i e
    split at h
    · cases h
    · rename_i hc
      refine .inr ⟨_, e, ?_⟩
      unfold pOk wOk
      cases hk : isNm k with
      | false => rfl
      | true =>
        rw [Bool.true_and]
        exact decide_eq_false fun z => hc ⟨hk, z⟩
  · rename_i hno
    cases e : pairBy w with
    | none => exact .inl rfl
    | some q =>
      obtain ⟨k, o⟩ := q
      refine .inr ⟨_, rfl, ?_⟩
      cases o with
      | none => unfold pOk wOk; simp
      | some i => exact absurd e (hno k i)
theorem sq_law_some : ∀ {r : List Str} {ps : List (Str × Int)}, sq (r.map lawP) = some ps → sq (r.map pairBy) = some (ps.map fun p => (p.1, some p.2)) ∧ (ps.map fun p : Str × Int => ((p.1, some p.2) : PO)).all pOk = true
  | [], ps, h => by
    cases h
    exact ⟨rfl, rfl⟩
  | w :: r, ps, h => by
    have h' : sq (lawP w :: r.map lawP) = some ps := h
    cases e : lawP w with
    | none => rw [e] at h'; cases h'
    | some p =>
      rw [e] at h'
      obtain ⟨qs, e1, e2⟩ := Option.map_eq_some_iff.mp (show (sq (r.map lawP)).map (p :: ·) = some ps from h')
      subst e2
      obtain ⟨i1, i2⟩ := sq_law_some e1
      obtain ⟨j1, j2⟩ := lawP_ok e
      refine ⟨?_, ?_⟩
      · show sq (pairBy w :: r.map pairBy) = _
        rw [j1]
        show (sq (r.map pairBy)).map _ = _
        rw [i1]
        rfl
      · rw [List.map_cons, List.all_cons, j2, i2]
        rfl
theorem sq_law_none : ∀ {r : List Str}, sq (r.map lawP) = none → sq (r.map pairBy) = none ∨ ∃ qs, sq (r.map pairBy) = some qs ∧ qs.all pOk = false
  | [], h => by cases h
  | w :: r, h => by
    have h' : sq (lawP w :: r.map lawP) = none := h
    have hs : sq ((w :: r).map pairBy) = sq (pairBy w :: r.map pairBy) := rfl
    rw [hs]
    cases e : lawP w with
    | none =>
      rcases lawP_none e with q | ⟨q, q1, q2⟩
      · rw [q]
        exact .inl rfl
      · rw [q1]
        show (sq (r.map pairBy)).map _ = none ∨ ∃ qs, (sq (r.map pairBy)).map _ = some qs ∧ _
        cases e2 : sq (r.map pairBy) with
        | none => exact .inl rfl
        | some qs => exact .inr ⟨q :: qs, rfl, by rw [List.all_cons, q2]; rfl⟩
    | some p =>
      rw [e] at h'
      have e1 : sq (r.map lawP) = none := by
        cases e2 : sq (r.map lawP) with
        | none => rfl
        | some qs =>
          have z : (sq (r.map lawP)).map (p :: ·) = none := h'
          rw [e2] at z
          cases z
      obtain ⟨j1, j2⟩ := lawP_ok e
      rw [j1]
      show (sq (r.map pairBy)).map _ = none ∨ ∃ qs, (sq (r.map pairBy)).map _ = some qs ∧ _
      rcases sq_law_none e1 with q | ⟨qs, q1, q2⟩
      · rw [q]
        exact .inl rfl
      · rw [q1]
        exact .inr ⟨_, rfl, by rw [List.all_cons, q2, Bool.and_false]⟩
theorem isLt_bad {who word : Str} {a b c : Int} {qs : List PO} (h : qs.all pOk = false) : isLt who word a b c qs = false := by
  have h1 : arePs qs = false := by
    unfold arePs
    rw [h, Bool.false_and, Bool.and_false]
  have h2 : qs ≠ [] := fun e => by
    rw [e] at h
    cases h
  unfold isLt
  rw [h1, decide_eq_false h2]
  by_cases hw : word ∈ NUMB
  · rw [if_pos hw]; simp
  · rw [if_neg hw]; simp
theorem law_read (who word x y z : Str) (r : List Str) : lawV who word ((numV x).getD (-1)) ((numV y).getD (-1)) ((numV z).getD (-1)) (sq (r.map lawP)) =
    (match numV x, numV y, numV z, sq (r.map pairBy) with
    | some a, some b, some c, some qs => if isLt who word a b c qs = true then some (ltrD who word a b c qs) else none
    | _, _, _, _ => none) := by
  unfold lawV
  cases hp : sq (r.map lawP) with
  | none =>
    have lhs : (if isNm who = true then (none : Option D) else none) = none := by split <;> rfl
    rw [lhs]
    rcases sq_law_none hp with q | ⟨qs, q1, q2⟩
    · rw [q]
      cases numV x <;> cases numV y <;> cases numV z <;> rfl
    · rw [q1]
      cases numV x <;> cases numV y <;> cases numV z <;> first | rfl | simp [isLt_bad q2]
  | some ps =>
    obtain ⟨q1, q2⟩ := sq_law_some hp
    rw [q1]
    cases ex : numV x with
    | none => simp
    | some a =>
      cases ey : numV y with
      | none => simp
      | some b =>
        cases ez : numV z with
        | none => simp
        | some c =>
          have na := numV_nonneg ex
          have nb := numV_nonneg ey
          have nc := numV_nonneg ez
          have ml : (ps.map fun p : Str × Int => ((p.1, some p.2) : PO)).length = ps.length := List.length_map _
          have mk : (ps.map fun p : Str × Int => ((p.1, some p.2) : PO)).map (·.1) = ps.map (·.1) := by rw [List.map_map]; rfl
          have ul := uS_le (ps.map (·.1))
          rw [List.length_map] at ul
          have mn : ((ps.map fun p : Str × Int => ((p.1, some p.2) : PO)) = []) ↔ ps = [] := List.map_eq_nil_iff
          have ap : arePs (ps.map fun p : Str × Int => ((p.1, some p.2) : PO)) = (decide (ps.length ≤ 6) && decide ((uS (ps.map (·.1))).length = ps.length)) := by
            unfold arePs
            rw [q2, ml, mk, Bool.true_and]
          dsimp only [Option.getD_some]
          generalize (ps.map fun p : Str × Int => ((p.1, some p.2) : PO)) = qs at q2 ml mk mn ap ⊢
          generalize (uS (ps.map (·.1))).length = u at ul ap ⊢
          have e0 : ps = [] ↔ ps.length = 0 := List.length_eq_zero_iff.symm
          unfold isLt
          rw [ap]
          by_cases h1 : isNm who = true
          · by_cases h2 : 1 ≤ a
            · by_cases h3 : word ∈ BARE
              · have h4 := bare_numb word h3
                by_cases h5 : c = 0
                · by_cases h6 : ps = []
                  · have h7 := mn.mpr h6
                    have hl := e0.mp h6
                    have : ¬ (u < ps.length) := by omega
                    simp [h1, h2, h3, h4, h5, h7, h6, nb, na]
                  · have h7 : ¬ qs = [] := fun e => h6 (mn.mp e)
                    simp [h1, h2, h3, h4, h5, h6, h7, nb]
                · simp [h1, h2, h3, h4, h5]
              · by_cases h4 : word ∈ NUMB
                · by_cases h5 : c = 0
                  · simp [h1, h2, h3, h4, h5]
                  · have h5' : 1 ≤ c := by omega
                    by_cases h6 : ps.length ≤ 6
                    · by_cases h7 : u = ps.length
                      · have : ¬ (u < ps.length) := by omega
                        have a1 : ¬ a < 0 := by omega
                        have a2 : ¬ b < 0 := by omega
                        have a3 : ¬ c < 0 := by omega
                        have a4 : ¬ a < 1 := by omega
                        have a5 : ¬ 6 < ps.length := by omega
                        simp [h1, h2, h3, h4, h5, h5', h6, h7, nb, a1, a2, a3, a4, a5]
                      · have h8 : u < ps.length := by omega
                        simp [h1, h2, h3, h4, h5, h5', h6, h7, h8, nb]
                    · have a5 : 6 < ps.length := by omega
                      simp [h1, h2, h3, h4, h5, h5', h6, a5, nb]
                · simp [h1, h2, h3, h4]
            · have h2' : a < 1 := by omega
              simp [h1, h2, h2']
          · simp [h1]
end Cw

set_option maxRecDepth 100000
set_option maxHeartbeats 2000000
set_option linter.all false
/-! k79: what is due. -/
namespace Cw
open PySem PySem.Spec PyProof.Rows L2
def dueO : Option D → D
  | some d => .lst [d]
  | none => T0
theorem low_ltr (n : Nat) (who word : Str) (a b c : Int) (qs : List PO) : lowD n (ltrD who word a b c qs) = true := by
  have h : lowDs n (qs.map pairO) = true := by
    induction qs with
    | nil => rfl
    | cons q qs ih =>
      show (lowD n (pairO q) && lowDs n (qs.map pairO)) = true
      rw [ih]
      obtain ⟨k, o⟩ := q
      cases o <;> rfl
  show (true && (true && (true && (true && (true && (lowDs n (qs.map pairO) && true)))))) = true
  rw [h]
  rfl
theorem cut_lst {F : Fn} {ds : List D} {S X : Sto} {v : D} (h : F ds S = some (.ok v (S ++ X))) (hv : lowD S.length v = true) : cutF F ds S = some (.ok v S) := cut_pure h hv
theorem low_due (n : Nat) (t : Str) : lowD n (dueO (readV t)) = true := by
  cases e : readV t with
  | none => rfl
  | some d =>
    show (lowD n d && true) = true
    unfold readV at e
    split at e
    · split at e
      · split at e
        · cases e
          rw [low_ltr]
          rfl
        · cases e
      · cases e
    · cases e
theorem kinds_comp {S : Sto} {n : Nat} {ps : List (Str × Int)} {δ : Env} (h : S[n]? = some (.lst (ps.map pairD))) (hδ : δ.length = 9) (hl : ps.length ≤ 200000) :
    lcR n [8, 6] (gSeq 2 (gsCons (gNm 8) (gsCons (gNm 6) (gsNil)))) tYesD (dVar 8) ps.length 0 δ S [] = some (.ok ((ps.map (·.1)).map .str) S) := by
  have hG : ∀ (p : Str × Int), gSeq 2 (gsCons (gNm 8) (gsCons (gNm 6) (gsNil))) (pairD p) (wipeD δ [8, 6]) S = some (((wipeD δ [8, 6]).set 8 (some (.str p.1))).set 6 (some (.int p.2))) := fun p => rfl
  have key : ∀ (l : List (Str × Int)) (i : Nat) (acc : List D), (ps.drop i) = l → acc.length + l.length ≤ 300000 → lcR n [8, 6] (gSeq 2 (gsCons (gNm 8) (gsCons (gNm 6) (gsNil)))) tYesD (dVar 8) l.length i δ S acc = some (.ok (acc ++ (l.map (·.1)).map .str) S) := by
    intro l
    induction l with
    | nil =>
      intro i acc hd _
      have hi : ps.length ≤ i := List.drop_eq_nil_iff.mp hd
      unfold lcR nxtR
      rw [h]
      have : (ps.map pairD)[i]? = none := List.getElem?_eq_none_iff.mpr (by rw [List.length_map]; exact hi)
      simp [this]
    | cons p l ih =>
      intro i acc hd hl
      rw [List.length_cons] at hl
      have hi : ps[i]? = some p := by
        have : (ps.drop i)[0]? = some p := by rw [hd]; rfl
        rw [List.getElem?_drop] at this
        simpa using this
      have hd2 : ps.drop (i + 1) = l := by
        have : (ps.drop i).drop 1 = l := by rw [hd]; rfl
        rw [List.drop_drop] at this
        exact this
      have nx : nxtR n i S = some (some (pairD p)) := by
        unfold nxtR
        rw [h]
        simp [hi]
      rw [List.length_cons]
      unfold lcR
      rw [nx]
      dsimp only
      rw [hG]
      have tv : dVar 8 (((wipeD δ [8, 6]).set 8 (some (.str p.1))).set 6 (some (.int p.2))) S = some (.ok (.str p.1) S) := by
        match δ, hδ with
        | [d0, d1, d2, d3, d4, d5, d6, d7, d8], _ => rfl
      show bndL (some (.ok true S)) _ = _
      rw [bndL_ok, if_pos rfl, tv, bndL_ok, if_pos (by rw [big_eq]; omega), ih _ _ hd2 (by rw [List.length_append, List.length_singleton]; omega), List.append_assoc]
      rfl
  have z := key ps 0 [] rfl (by rw [List.length_nil]; omega)
  rw [List.nil_append] at z
  exact z
theorem ne_bb (a b : Bool) (S : Sto) : neV' (.bl a) (.bl b) S = some (.bl (!decide (a = b)), S) := rfl
theorem nm_okT {k : Str} (h : isNm k = true) : okT 8 k := by
  unfold isNm at h
  rw [Bool.and_eq_true] at h
  refine ⟨(of_decide_eq_true h.1).2, fun c hc => ?_⟩
  have z := of_decide_eq_true (List.all_eq_true.mp h.2 c hc)
  have key : ∀ c ∈ TL.tl "abcdefghijklmnopqrstuvwxyz", c < 128 := by decide +kernel
  exact key c z
theorem sq_names : ∀ {r : List Str} {ps : List (Str × Int)}, sq (r.map lawP) = some ps → ∀ p ∈ ps, isNm p.1 = true := fun {r ps} h p hp => by
  obtain ⟨_, q⟩ := sq_law_some h
  have z := List.all_eq_true.mp q (p.1, some p.2) (List.mem_map.mpr ⟨p, hp, rfl⟩)
  unfold pOk at z
  rw [Bool.and_eq_true] at z
  exact z.1
theorem sh_pairD {ps : List (Str × Int)} (h : ∀ p ∈ ps, isNm p.1 = true) : shDs 60 (ps.map pairD) = true := shDs_map fun p hp => by
  show (PyData.strOk p.1 && (true && true)) = true
  rw [(nm_okT (h p hp)).strOk]
  rfl
theorem due {n : Nat} {t : Str} (ht : okT n t) (hn : n ≤ 100000) (S : Sto) : F__law_due [.str t] S = some (.ok (dueO (readV t)) S) := by
  obtain ⟨f1, f2, _⟩ := split_facts (t := t) sep_sp (by decide)
  have fk : ∀ w ∈ Txt.split t " ", okT n w := fun w hw => ht.split sep_sp (by decide) hw
  have sp := fun S => split_ok (a := t) (b := " ") (by decide +kernel) (by have := ht.1; rw [big_eq]; omega) S
  have hlen : (Txt.split t " ").length ≤ n + 1 := by have := wt_len (Txt.split t " "); have := ht.1; omega
  have hr : readV t = match Txt.split t " " with
    | who :: word :: x :: y :: z :: r => lawV who word ((numV x).getD (-1)) ((numV y).getD (-1)) ((numV z).getD (-1)) (sq (r.map lawP))
    | _ => none := by
    unfold readV
    generalize Txt.split t " " = V
    match V with
    | who :: word :: x :: y :: z :: r => exact (law_read who word x y z r).symm
    | [] => rfl
    | [_] => rfl
    | [_, _] => rfl
    | [_, _, _] => rfl
    | [_, _, _, _] => rfl
  have lo := low_due S.length t
  rw [hr] at lo ⊢
  generalize Txt.split t " " = Ws at f1 fk sp hlen lo
  have short : Ws.length ≤ 4 → F__law_due [.str t] S = some (.ok T0 S) := fun h => by
    have g : (Ws.length : Int) < 5 := by omega
    refine cut_lst (X := []) ?_ rfl
    have n1 : ∀ S, len1 (.lst (Ws.map .str)) S = some (.int Ws.length, S) := fun S => by rw [len_l, List.length_map]
    simp [body, d__law_due, ty_str, sp, g1, n1, g, T0, big_eq]
  match Ws, f1, fk, sp, hlen, short, lo with
  | [], f1, _, _, _, _, _ => exact absurd rfl f1
  | [a], _, _, _, _, short, _ => exact short (by simp)
  | [a, b], _, _, _, _, short, _ => exact short (by simp)
  | [a, b, c], _, _, _, _, short, _ => exact short (by simp)
  | [a, b, c, d], _, _, _, _, short, _ => exact short (by simp)
  | who :: word :: x :: y :: z :: r, _, fk, sp, hlen, _, lo =>
    simp only [List.length_cons] at hlen
    have nm := fun S => lawName (fk who (by simp)) (by omega) S
    have num := fun (s : Str) hs S => lawNumber (fk s hs) (by omega) S
    let Wd : List D := (who :: word :: x :: y :: z :: r).map .str
    have hWd : (who :: word :: x :: y :: z :: r).map D.str = Wd := rfl
    have n1 : ∀ S, len1 (.lst Wd) S = some (.int ((r.length : Int) + 5), S) := fun S => by
      show some (D.int (((who :: word :: x :: y :: z :: r).map D.str).length : Nat), S) = _
      rw [List.length_map]
      simp only [List.length_cons]
      have : ((r.length + 1 + 1 + 1 + 1 + 1 : Nat) : Int) = (r.length : Int) + 5 := by omega
      rw [this]
    have g5 : ¬ ((r.length : Int) + 5 < 5) := by omega
    have x0 : ∀ S, ixV (.lst Wd) (.int 0) S = some (.str who, S) := fun S => by
      rw [ix_lst (ds := Wd) (by decide) (by show ((0 : Int)) < ((Wd.length : Nat) : Int); simp only [Wd, List.length_map, List.length_cons]; omega)]
      rfl
    have x1 : ∀ S, ixV (.lst Wd) (.int 1) S = some (.str word, S) := fun S => by
      rw [ix_lst (ds := Wd) (by decide) (by show ((1 : Int)) < ((Wd.length : Nat) : Int); simp only [Wd, List.length_map, List.length_cons]; omega)]
      rfl
    have s25 : ∀ S, slV (.lst Wd) (some 2) (some 5) S = some (.lst ([x, y, z].map .str), S) := fun S => by
      show some (D.lst (cutD Wd (some ((2 : Nat) : Int)) (some ((5 : Nat) : Int))), S) = _
      unfold cutD
      rw [HT.sIx_nat, HT.sIx_nat]
      have l1 : min 2 Wd.length = 2 := by simp only [Wd, List.length_map, List.length_cons]; omega
      have l2 : min 5 Wd.length = 5 := by simp only [Wd, List.length_map, List.length_cons]; omega
      rw [l1, l2]
      rfl
    have s5 : ∀ S, slV (.lst Wd) (some 5) none S = some (.lst (r.map .str), S) := fun S => slFrom (l := who :: word :: x :: y :: z :: r) (n := 5) (by simp)
    have e1 := comp_strs (F := F__law_number_in) (f := fun s => .int ((numV s).getD (-1))) (i := 4) (δ := [some (.str t), some (.lst Wd), none, none, none, none, none, none, none]) (S := S) (show 4 < 9 by omega) (l := [x, y, z]) (fun s hs => num s (by simp only [List.mem_cons, List.not_mem_nil, or_false] at hs ⊢; rcases hs with e | e | e <;> simp [e]) S) (by rw [big_eq]; show 3 ≤ 1000000; omega)
    simp only [List.map_cons, List.map_nil] at e1 s25
    have nn : ∀ o : Option Int, o.getD (-1) = o.getD (-1) := fun _ => rfl
    show _ = some (Out.ok (dueO (lawV who word ((numV x).getD (-1)) ((numV y).getD (-1)) ((numV z).getD (-1)) (sq (r.map lawP)))) S)
    have lo' : lowD S.length (dueO (lawV who word ((numV x).getD (-1)) ((numV y).getD (-1)) ((numV z).getD (-1)) (sq (r.map lawP)))) = true := lo
    generalize (numV x).getD (-1) = A at e1 lo'
    generalize (numV y).getD (-1) = B at e1 lo'
    generalize (numV z).getD (-1) = C at e1 lo'
    rw [hWd] at sp
    have stW : ∀ l : List D, still (.lst l) = some l := fun l => rfl
    cases hn1 : isNm who with
    | false =>
      have nm' := nm S
      rw [hn1] at nm'
      have lv : lawV who word A B C (sq (r.map lawP)) = none := by unfold lawV; rw [hn1]; rfl
      rw [lv]
      generalize Wd = Wd' at sp n1 x0
      refine cut_lst (X := []) ?_ rfl
      simp [body, d__law_due, ty_str, sp, g1, n1, g5, x0, nm', T0, dueO, big_eq]
    | true =>
      have nm' := nm S
      rw [hn1] at nm'
      have hp : lawV who word A B C (sq (r.map lawP)) = (match sq (r.map lawP) with
        | none => none
        | some ps =>
          if (¬ word ∈ BARE ∧ ¬ word ∈ NUMB) ∨ (A < 0 ∨ B < 0 ∨ C < 0) ∨ A < 1 then none
          else if (decide (word ∈ BARE) ≠ decide (C = 0)) ∨ (word ∈ BARE ∧ ps ≠ []) ∨ 6 < ps.length then none
          else if (uS (ps.map (·.1))).length < ps.length then none
          else some (ltrD who word A B C (ps.map fun p => (p.1, some p.2)))) := by
        unfold lawV
        rw [hn1]
        exact if_pos rfl
      rcases due_loop (S := S) (a := some (.str t)) (b := some (.lst Wd)) (c := some (.lst [.int A, .int B, .int C])) (y7 := none) (y8 := none) hn r (ps := []) (y4 := none) (y5 := none) (y6 := none) (fun w hw => fk w (by simp [hw])) (by show 0 + r.length ≤ 200000; omega) with ⟨e3, S', e4⟩ | ⟨ps, v4, v5, v6, e3, e4⟩
      · rw [hp, e3]
        generalize Wd = Wd' at sp n1 x0 s25 s5 e1 e4
        refine cut_lst (X := S') ?_ rfl
        rw [List.map_nil] at e4
        have q : (match (none : Option (List (Str × Int))) with
        | none => (none : Option D)
        | some ps => none) = none := rfl
        simp [body, d__law_due, ty_str, sp, g1, n1, g5, x0, nm', big_eq, dLc, iSeq, s25, stW]
        rw [e1]
        simp [big_eq, sFor, iSeq, s5, stW]
        rw [e4]
        rfl
      · rw [List.nil_append] at e4
        rw [hp, e3] at lo' ⊢
        dsimp only at lo' ⊢
        have names := sq_names e3
        have pl : ps.length ≤ 200000 := by
          have z := congrArg List.length (sq_some e3)
          rw [List.length_map, List.length_map] at z
          omega
        have hS : (S ++ [Ob.lst (ps.map pairD)])[S.length]? = some (.lst (ps.map pairD)) := by simp
        have w1 : ∀ S, inV' (.str word) (.tup [.str "bye", .str "here", .str "there"]) S = some (.bl (decide (word ∈ BARE)), S) := fun S => in_tupS (ks := BARE)
        have w2 : ∀ S, notInV' (.str word) (.tup [.str "ask", .str "yes", .str "no", .str "rather"]) S = some (.bl (!decide (word ∈ NUMB)), S) := fun S => notIn_tupS (ks := NUMB)
        have y0 : ∀ S, ixV (.lst [.int A, .int B, .int C]) (.int 0) S = some (.int A, S) := fun S => rfl
        have y2 : ∀ S, ixV (.lst [.int A, .int B, .int C]) (.int 2) S = some (.int C, S) := fun S => rfl
        have mn : ∀ S, minL (.lst [.int A, .int B, .int C]) S = some (.int (if C < (if B < A then B else A) then C else (if B < A then B else A)), S) := fun S => rfl
        have mi : ((if C < (if B < A then B else A) then C else (if B < A then B else A)) < 0) = (A < 0 ∨ B < 0 ∨ C < 0) := by
          apply propext
          constructor
          · intro h
            split at h <;> split at h <;> omega
          · intro h
            split <;> split <;> omega
        have ne := ne_nil (S := S ++ [Ob.lst (ps.map pairD)]) (lst_ref hS) (sh_pairD names)
        have nl : decide (ps.map pairD = []) = decide (ps = []) := by cases ps <;> rfl
        rw [nl] at ne
        have ln := len_ref hS
        rw [List.length_map] at ln
        have rf : refL (S ++ [Ob.lst (ps.map pairD)]) (.ref S.length) = some (S.length, ps.length) := by
          unfold refL
          dsimp only
          rw [hS]
          dsimp only
          rw [List.length_map]
        have kc := fun δ hδ => kinds_comp (δ := δ) hS hδ pl
        have ls : ps.length ≤ 6 → lenSetS (.lst ((ps.map (·.1)).map .str)) (S ++ [Ob.lst (ps.map pairD)]) = some (.int (uS (ps.map (·.1))).length) := fun h => by
          show ((txs ((ps.map (·.1)).map .str)).bind fun ns => if ns.length ≤ 4000 then some (D.int (uS ns).length) else none) = _
          rw [txs_map]
          exact if_pos (by rw [List.length_map]; omega)
        have t1 : ∀ S, tuple1 (.lst [.int A, .int B, .int C]) S = some (.tup [.int A, .int B, .int C], S) := fun S => rfl
        have t2 := tuple_ref hS
        have a1 : ∀ S, addV (.tup [.str who, .str word]) (.tup [.int A, .int B, .int C]) S = some (.tup [.str who, .str word, .int A, .int B, .int C], S) := fun S => add_tt (a := [.str who, .str word]) (b := [.int A, .int B, .int C]) (by rw [big_eq]; show 2 + 3 ≤ 1000000; omega)
        have a2 : ∀ (d : D) S, addV (.tup [.str who, .str word, .int A, .int B, .int C]) (.tup [d]) S = some (.tup [.str who, .str word, .int A, .int B, .int C, d], S) := fun d S => add_tt (a := [.str who, .str word, .int A, .int B, .int C]) (b := [d]) (by rw [big_eq]; show 5 + 1 ≤ 1000000; omega)
        have fin : ltrD who word A B C (ps.map fun p => (p.1, some p.2)) = .tup [.str who, .str word, .int A, .int B, .int C, .tup (ps.map pairD)] := by
          unfold ltrD
          rw [List.map_map]
          rfl
        rw [fin] at lo' ⊢
        refine cut_lst (X := [.lst (ps.map pairD)]) ?_ lo'
        rw [List.map_nil] at e4
        generalize Wd = Wd' at sp n1 x0 x1 s25 s5 e1 e4
        generalize S ++ [Ob.lst (ps.map pairD)] = S2 at hS ne ln rf kc ls t2 e4 ⊢
        have pre : ∀ (K : DS), sSeq (sAsg (dMt "str" splitV (dVar 0) (aCons (dC (.str " ")) (aNil))) (gNm 1)) K [some (.str t), none, none, none, none, none, none, none, none] S = K [some (.str t), some (.lst Wd'), none, none, none, none, none, none, none] S := fun K => by
          simp [ty_str, sp]
        simp [body, d__law_due, ty_str, sp, g1, n1, g5, x0, nm', big_eq, dLc, iSeq, s25, stW]
        rw [e1]
        simp [big_eq, sFor, iSeq, s5, stW]
        rw [e4]
        by_cases hm : (A < 0 ∨ B < 0 ∨ C < 0)
        · by_cases hb : word ∈ BARE
          · simp [x1, w1, w2, hb, g1, mn, mi, hm, T0, dueO, big_eq]
          · by_cases hq : word ∈ NUMB
            · simp [x1, w1, w2, hb, hq, g1, mn, mi, hm, T0, dueO, big_eq]
            · simp [x1, w1, w2, hb, hq, g1, mn, mi, hm, T0, dueO, big_eq]
        · by_cases ha : A < 1
          · by_cases hb : word ∈ BARE
            · simp [x1, w1, w2, hb, g1, mn, mi, hm, ha, y0, T0, dueO, big_eq]
            · by_cases hq : word ∈ NUMB
              · simp [x1, w1, w2, hb, hq, g1, mn, mi, hm, ha, y0, T0, dueO, big_eq]
              · simp [x1, w1, w2, hb, hq, g1, mn, mi, hm, ha, y0, T0, dueO, big_eq]
          · by_cases hb : word ∈ BARE
            · by_cases hc : C = 0
              · have hc' := eq_true hc
                by_cases hp0 : ps = []
                · have hp0' := eq_true hp0
                  have hl0 : ps.length = 0 := by rw [hp0]; rfl
                  have u0 : ¬ ((uS (ps.map (·.1))).length < ps.length) := by omega
                  have l6' : ¬ (6 < ps.length) := by omega
                  have l6i : ¬ ((6 : Int) < (ps.length : Int)) := by omega
                  have ls' := ls (by omega)
                  simp [x1, w1, w2, hb, g1, mn, mi, hm, ha, y0, y2, ne_bb, hc', ne, hp0', ln, l6', l6i, dLenSetS, dLcR, iOwn, rf]
                  rw [kc _ rfl]
                  simp [ls', ln, u0, g1, t1, t2, a1, a2, x0, x1, dueO, big_eq, -List.map_map]
                · have hp0' := eq_false hp0
                  simp [x1, w1, w2, hb, g1, mn, mi, hm, ha, y0, y2, ne_bb, hc', ne, hp0', T0, dueO, big_eq]
              · have hc' := eq_false hc
                simp [x1, w1, w2, hb, g1, mn, mi, hm, ha, y0, y2, ne_bb, hc', T0, dueO, big_eq]
            · by_cases hq : word ∈ NUMB
              · by_cases hc : C = 0
                · have hc' := eq_true hc
                  simp [x1, w1, w2, hb, hq, g1, mn, mi, hm, ha, y0, y2, ne_bb, hc', T0, dueO, big_eq]
                · have hc' := eq_false hc
                  by_cases l6 : 6 < ps.length
                  · have l6i : (6 : Int) < (ps.length : Int) := by omega
                    simp [x1, w1, w2, hb, hq, g1, mn, mi, hm, ha, y0, y2, ne_bb, hc', ln, l6, l6i, T0, dueO, big_eq]
                  · have ls' := ls (by omega)
                    have l6i : ¬ ((6 : Int) < (ps.length : Int)) := by omega
                    by_cases u0 : (uS (ps.map (·.1))).length < ps.length
                    · simp [x1, w1, w2, hb, hq, g1, mn, mi, hm, ha, y0, y2, ne_bb, hc', ln, l6, l6i, dLenSetS, dLcR, iOwn, rf]
                      rw [kc _ rfl]
                      simp [ls', ln, u0, g1, T0, dueO, big_eq, -List.map_map]
                    · simp [x1, w1, w2, hb, hq, g1, mn, mi, hm, ha, y0, y2, ne_bb, hc', ln, l6, l6i, dLenSetS, dLcR, iOwn, rf]
                      rw [kc _ rfl]
                      simp [ls', ln, u0, g1, t1, t2, a1, a2, x0, x1, dueO, big_eq, -List.map_map]
              · simp [x1, w1, w2, hb, hq, g1, T0, dueO, big_eq]
end Cw

set_option maxRecDepth 100000
set_option maxHeartbeats 2000000
set_option linter.all false
/-! k79: the refusal. -/
namespace Cw
open PySem PySem.Spec PyProof.Rows L2
theorem thunk_at {L : LamR} {th : Thk} {S : Sto} {r : Env} : dThunk 0 L th (some (.ref S.length) :: r) (S ++ [.lam L]) = th (S ++ [.lam L]) := by
  have h : (S ++ [Ob.lam L])[S.length]? = some (.lam L) := by simp
  unfold dThunk
  simp only [List.getElem?_cons_zero, h, if_true]
theorem low_of_exn (n : Nat) (d : D) : True := trivial
theorem refuse_ok {th : Thk} {S : Sto} {d : D} (h : ∀ L, th (S ++ [.lam L]) = some (.ok d (S ++ [.lam L]))) (hd : lowD S.length d = true) : lamR 4 d__law_refusal th S = some (.ok (.lst [d]) S) := by
  refine lamR_eq fun L => ?_
  refine cut_pure (X := [.lam L]) ?_ (by show (lowD S.length d && true) = true; rw [hd]; rfl)
  have t := fun r => thunk_at (L := L) (th := th) (S := S) (r := r)
  rw [h L] at t
  have n1 : ∀ S, isV2 .non .non S = some (.bl true, S) := fun S => rfl
  simp [body, d__law_refusal, sTry, t, n1, big_eq]
theorem refuse_exc {th : Thk} {S : Sto} {x : D} (h : ∀ L, th (S ++ [.lam L]) = some (.exc (XT x) (S ++ [.lam L]))) (hx : lowD S.length x = true) : lamR 4 d__law_refusal th S = some (.ok (.tup [x]) S) := by
  refine lamR_eq fun L => ?_
  refine cut_pure (X := [.lam L, .exn (XT x)]) ?_ (by show (lowD S.length x && true) = true; rw [hx]; rfl)
  have t := fun r => thunk_at (L := L) (th := th) (S := S) (r := r)
  rw [h L] at t
  have hS : ((S ++ [Ob.lam L]) ++ [Ob.exn (XT x)])[S.length + 1]? = some (.exn (XT x)) := by
    rw [List.getElem?_append_right (by simp)]
    simp
  have n1 : ∀ n S, isV2 (.ref n) .non S = some (.bl false, S) := fun n S => rfl
  have tb : tblE [(("NoText" : Str), true)] ("NoText" : Str) = some true := rfl
  have i1 : isxV (tblM [("NoText", "NoDeed", false), ("NoText", "NoLine", false), ("NoText", "NoSaved", false), ("NoText", "NoTalk", false), ("NoText", "NotClosed", false), ("NoText", "NotOpen", false), ("NoText", "TooMany", false), ("NoText", "NoText", true)] [("NoText", "ValueError", true)]) (.ref (S.length + 1)) (.tup [.fn "NoDeed", .fn "NoLine", .fn "NoSaved", .fn "NoTalk", .fn "NotClosed", .fn "NotOpen", .fn "TooMany"]) ((S ++ [Ob.lam L]) ++ [Ob.exn (XT x)]) = some (.bl false, (S ++ [Ob.lam L]) ++ [Ob.exn (XT x)]) := by
    unfold isxV
    dsimp only
    rw [hS]
    rfl
  have i2 : isxV (tblM [("NoText", "NoDeed", false), ("NoText", "NoLine", false), ("NoText", "NoSaved", false), ("NoText", "NoTalk", false), ("NoText", "NotClosed", false), ("NoText", "NotOpen", false), ("NoText", "TooMany", false), ("NoText", "NoText", true)] [("NoText", "ValueError", true)]) (.ref (S.length + 1)) (.fn "NoText") ((S ++ [Ob.lam L]) ++ [Ob.exn (XT x)]) = some (.bl true, (S ++ [Ob.lam L]) ++ [Ob.exn (XT x)]) := by
    unfold isxV
    dsimp only
    rw [hS]
    rfl
  have i3 : isxV (tblM [("NoText", "NoDeed", false), ("NoText", "NoLine", false), ("NoText", "NoSaved", false), ("NoText", "NoTalk", false), ("NoText", "NotClosed", false), ("NoText", "NotOpen", false), ("NoText", "TooMany", false), ("NoText", "NoText", true)] [("NoText", "ValueError", true)]) (.ref (S.length + 1)) (.ty "ValueError") ((S ++ [Ob.lam L]) ++ [Ob.exn (XT x)]) = some (.bl true, (S ++ [Ob.lam L]) ++ [Ob.exn (XT x)]) := by
    unfold isxV
    dsimp only
    rw [hS]
    rfl
  have xf : excF "line" ["NoText"] ((S ++ [Ob.lam L]) ++ [Ob.exn (XT x)]) (.ref (S.length + 1)) = some x := by
    unfold excF
    dsimp only
    rw [hS]
    rfl
  have ln : (S ++ [Ob.lam L]).length = S.length + 1 := by simp
  have fin : S ++ [Ob.lam L, Ob.exn (XT x)] = (S ++ [Ob.lam L]) ++ [Ob.exn (XT x)] := by simp
  have cls : (XT x).cls = ("NoText" : Str) := rfl
  rw [fin]
  generalize hS2 : (S ++ [Ob.lam L]) ++ [Ob.exn (XT x)] = S2 at i1 i2 i3 xf
  have hS3 : S ++ [Ob.lam L, Ob.exn (XT x)] = S2 := by rw [fin, hS2]
  simp [body, d__law_refusal, sTry, t, cls, tb, unB, n1, big_eq, i1, i2, i3, dXf, xf, hS3]
end Cw

set_option maxRecDepth 100000
set_option maxHeartbeats 2000000
set_option linter.all false
/-! k79: the texts, drawn. -/
namespace Cw
open PySem PySem.Spec PyProof.Rows L2
structure Hold (m c : Nat) (o : Ob) (T : Sto) (k : Nat) (ts : List Str) : Prop where
  pen : PenOk m o
  at_ : T[k]? = some (.lst (ts.map .str))
  ok : ∀ t ∈ ts, okT 20000 t
  len : ts.length ≤ c
def Os : List Str := ["ask", "yes", "bye", "here", "0", "1", "01", "k=1", "k=9999", "l=10000", "a", "", "k", "=", "rather", "o=0"]
theorem os_ok : ∀ w ∈ Os, okT 14 w := by
  have : ∀ w ∈ Os, w.length ≤ 14 ∧ ∀ c ∈ TL.tl w, c < 128 := by decide +kernel
  exact this
def LK : Str := "01 =akb"
theorem lk_ok : okT 20 LK := by
  have : LK.length ≤ 20 ∧ ∀ c ∈ TL.tl LK, c < 128 := by decide +kernel
  exact this
theorem lk_pos : 0 < LK.length := by decide +kernel
noncomputable abbrev inT : DS := sSeq (sAsg (dOp ixV (dLst (aCons (dCall F__law_sign_bent 3 [] (aCons (dVar 1) (aCons (dVar 5) (aCons (dC (.str "01 =akb")) (aNil))))) (aCons (dCall F__law_word_bent 3 [] (aCons (dVar 1) (aCons (dVar 5) (aCons (dVar 3) (aNil))))) (aNil)))) (dCall F__law_draw 2 [] (aCons (dVar 1) (aCons (dC (.int 2)) (aNil))))) (gNm 7)) (sAsg (dOp addVO (dVar 2) (dLst (aCons (dVar 7) (aCons (dCall F__law_word_bent 3 [] (aCons (dVar 1) (aCons (dVar 7) (aCons (dVar 3) (aNil))))) (aNil))))) (gNm 2))
theorem at2k {tb o : Ob} {T : Sto} {k : Nat} : (tb :: o :: T)[k + 2]? = T[k]? := rfl
theorem in_turn {m c k : Nat} {tb o : Ob} {T : Sto} {ts : List Str} {text : Str} {x0 x4 x6 x7 x8 x9 : Option D} (h : Hold m c o T k ts) (hm : m + 20 ≤ 10000) (hc : c ≤ 1000) (ht : okT 1000 text) :
    ∃ (o' : Ob) (T' : Sto) (k' : Nat) (ts' : List Str) (y7 : Option D), inT [x0, some (.ref 1), some (.ref (k + 2)), some (.lst (Os.map .str)), x4, some (.str text), x6, x7, x8, x9] (tb :: o :: T) =
      some (.nx [x0, some (.ref 1), some (.ref (k' + 2)), some (.lst (Os.map .str)), x4, some (.str text), x6, y7, x8, x9] (tb :: o' :: T')) ∧ Hold (m + 20) (c + 2) o' T' k' ts' := by
  have hO : 0 < Os.length := by decide
  have hO2 : Os.length ≤ 100 := by decide
  obtain ⟨t1, o1, e1, k1, p1⟩ := signBent (tb := tb) (T := T) h.pen (by omega) ht (by omega) lk_ok lk_pos
  obtain ⟨t2, o2, e2, k2, p2⟩ := wordBent (tb := tb) (T := T) p1 (by omega) ht (by omega) hO hO2 os_ok
  obtain ⟨d3, o3, e3, l3, p3⟩ := drawN (tb := tb) (T := T) (n := 2) p2 (by omega) (by omega) (by omega)
  have x3 := ixs (cs := [t1, t2]) (S := tb :: o3 :: T) (d := d3) l3
  have k3 : okT 4100 (([t1, t2] : List Str).getD d3 Str.empty) := by
    have hm : ([t1, t2] : List Str).getD d3 Str.empty ∈ ([t1, t2] : List Str) := getD_mem l3
    simp only [List.mem_cons, List.not_mem_nil, or_false] at hm
    rcases hm with e | e
    · rw [e]; exact k1.mono (by omega)
    · rw [e]; exact k2.mono (by omega)
  generalize ([t1, t2] : List Str).getD d3 Str.empty = bent at x3 k3
  obtain ⟨t4, o4, e4, k4, p4⟩ := wordBent (tb := tb) (T := T) p3 (by omega) k3 (by omega) hO hO2 os_ok
  have ad : addVO (.ref (k + 2)) (.lst [.str bent, .str t4]) (tb :: o4 :: T) = some (.ref (T.length + 2), tb :: o4 :: (T ++ [.lst ((ts ++ [bent, t4]).map .str)])) := by
    unfold addVO
    have l1 : lstOf (tb :: o4 :: T) (.ref (k + 2)) = some (ts.map .str) := lst_ref (by rw [at2k]; exact h.at_)
    rw [l1]
    have hl : (ts.map D.str).length + ([.str bent, .str t4] : List D).length ≤ big := by
      rw [List.length_map, big_eq]
      have := h.len
      show ts.length + 2 ≤ 1000000
      omega
    show (if (ts.map D.str).length + ([.str bent, .str t4] : List D).length ≤ big then some (D.ref (tb :: o4 :: T).length, (tb :: o4 :: T) ++ [Ob.lst (ts.map D.str ++ [.str bent, .str t4])]) else none) = _
    rw [if_pos hl, List.map_append]
    rfl
  refine ⟨o4, T ++ [.lst ((ts ++ [bent, t4]).map .str)], T.length, ts ++ [bent, t4], some (.str bent), ?_, ⟨p4.mono (by omega), by simp, fun t ht => ?_, by rw [List.length_append]; have := h.len; show ts.length + 2 ≤ c + 2; omega⟩⟩
  · have e3' : F__law_draw [.ref 1, .int 2] (tb :: o2 :: T) = some (.ok (.int (d3 : Int)) (tb :: o3 :: T)) := e3
    have e1' : F__law_sign_bent [.ref 1, .str text, .str "01 =akb"] (tb :: o :: T) = some (.ok (.str t1) (tb :: o1 :: T)) := e1
    simp only [List.map_cons, List.map_nil] at x3
    generalize D.lst (Os.map .str) = OD at e2 e4 ⊢
    simp [inT, e1', e2, e3', x3, e4, ad, big_eq, -List.map_append]
  · rcases List.mem_append.mp ht with z | z
    · exact h.ok t z
    · simp only [List.mem_cons, List.not_mem_nil, or_false] at z
      rcases z with e | e
      · rw [e]; exact k3.mono (by omega)
      · rw [e]; exact k4.mono (by omega)
theorem in_loop {tb : Ob} {text : Str} {x0 x4 x8 x9 : Option D} (ht : okT 1000 text) : ∀ (ds : List D) {m c k : Nat} {o : Ob} {T : Sto} {ts : List Str} {x6 x7 : Option D}, Hold m c o T k ts → m + 20 * ds.length ≤ 10000 → c + 2 * ds.length ≤ 1000 →
    ∃ (o' : Ob) (T' : Sto) (k' : Nat) (ts' : List Str) (y6 y7 : Option D), forD (gNm 6) inT ds [x0, some (.ref 1), some (.ref (k + 2)), some (.lst (Os.map .str)), x4, some (.str text), x6, x7, x8, x9] (tb :: o :: T) =
      some (.nx [x0, some (.ref 1), some (.ref (k' + 2)), some (.lst (Os.map .str)), x4, some (.str text), y6, y7, x8, x9] (tb :: o' :: T')) ∧ Hold (m + 20 * ds.length) (c + 2 * ds.length) o' T' k' ts'
  | [], m, c, k, o, T, ts, x6, x7, h, _, _ => ⟨o, T, k, ts, x6, x7, rfl, h⟩
  | d :: ds, m, c, k, o, T, ts, x6, x7, h, hm, hc => by
    rw [List.length_cons] at hm hc
    obtain ⟨o1, T1, k1, ts1, y7, e1, h1⟩ := in_turn (tb := tb) (x0 := x0) (x4 := x4) (x6 := some d) (x7 := x7) (x8 := x8) (x9 := x9) h (by omega) (by omega) ht
    obtain ⟨o2, T2, k2, ts2, z6, z7, e2, h2⟩ := in_loop (tb := tb) (text := text) (x0 := x0) (x4 := x4) (x8 := x8) (x9 := x9) ht ds (x6 := some d) (x7 := y7) h1 (by omega) (by omega)
    refine ⟨o2, T2, k2, ts2, z6, z7, ?_, ⟨h2.pen.mono (by rw [List.length_cons]; omega), h2.at_, h2.ok, by have := h2.len; rw [List.length_cons]; omega⟩⟩
    rw [for_nm, show ([x0, some (.ref 1), some (.ref (k + 2)), some (.lst (Os.map .str)), x4, some (.str text), x6, x7, x8, x9] : Env).set 6 (some d) = [x0, some (.ref 1), some (.ref (k + 2)), some (.lst (Os.map .str)), x4, some (.str text), some d, x7, x8, x9] from rfl, e1, contD_nx]
    exact e2
noncomputable abbrev outT : DS := sSeq (sAsg (dCall F_show_letter 1 [] (aCons (dCall F__law_some_letter 1 [] (aCons (dVar 1) (aNil))) (aNil))) (gNm 5)) (sSeq (sExpr (dMt "list" appendV (dVar 2) (aCons (dVar 5) (aNil)))) (sFor (iRg1 (aCons (dC (.int 6)) (aNil))) (gNm 6) inT))
theorem app_hold {m c k : Nat} {tb o : Ob} {T : Sto} {ts : List Str} {t : Str} (h : Hold m c o T k ts) (hc : c ≤ 1000) (ht : okT 20000 t) :
    tyD (tb :: o :: T) "list" (.ref (k + 2)) = true ∧ appendV (.ref (k + 2)) [.str t] (tb :: o :: T) = some (.non, tb :: o :: T.set k (.lst ((ts ++ [t]).map .str))) ∧ Hold m (c + 1) o (T.set k (.lst ((ts ++ [t]).map .str))) k (ts ++ [t]) := by
  have hk : k < T.length := (List.getElem?_eq_some_iff.mp h.at_).1
  have a := h.at_
  have ln := h.len
  refine ⟨ty_ref (by rw [at2k]; exact a), ?_, ⟨h.pen, by rw [List.getElem?_set_self hk], fun x hx => ?_, by rw [List.length_append, List.length_singleton]; omega⟩⟩
  · have z := app_ref (S := tb :: o :: T) (n := k + 2) (ds := ts.map D.str) (d := .str t) (by rw [at2k]; exact a) (by rw [List.length_map, big_eq]; omega)
    rw [z, List.map_append]
    rfl
  · rcases List.mem_append.mp hx with z | z
    · exact h.ok x z
    · rw [List.mem_singleton.mp z]
      exact ht
theorem out_turn {m c k : Nat} {tb o : Ob} {T : Sto} {ts : List Str} {x0 x4 x5 x6 x7 x8 x9 : Option D} (h : Hold m c o T k ts) (hm : m + 200 ≤ 10000) (hc : c + 20 ≤ 1000) :
    ∃ (o' : Ob) (T' : Sto) (k' : Nat) (ts' : List Str) (y5 y6 y7 : Option D), outT [x0, some (.ref 1), some (.ref (k + 2)), some (.lst (Os.map .str)), x4, x5, x6, x7, x8, x9] (tb :: o :: T) =
      some (.nx [x0, some (.ref 1), some (.ref (k' + 2)), some (.lst (Os.map .str)), x4, y5, y6, y7, x8, x9] (tb :: o' :: T')) ∧ Hold (m + 200) (c + 20) o' T' k' ts' := by
  obtain ⟨l, o1, e1, hl, p1⟩ := someLetter (tb := tb) (T := T) h.pen (by omega)
  obtain ⟨t, e2, ht⟩ := showLetter hl (tb :: o1 :: T)
  have h1 : Hold (m + 60) c o1 T k ts := ⟨p1, h.at_, h.ok, h.len⟩
  obtain ⟨a1, a2, h2⟩ := app_hold (tb := tb) h1 (by omega) (ht.mono (m := 20000) (by omega))
  obtain ⟨o3, T3, k3, ts3, y6, y7, e3, h3⟩ := in_loop (tb := tb) (text := t) (x0 := x0) (x4 := x4) (x8 := x8) (x9 := x9) ht (upto 0 6) (x6 := x6) (x7 := x7) h2 (by rw [upto_len]; omega) (by rw [upto_len]; omega)
  rw [upto_len] at h3
  refine ⟨o3, T3, k3, ts3, some (.str t), y6, y7, ?_, ⟨h3.pen.mono (by omega), h3.at_, h3.ok, by have := h3.len; omega⟩⟩
  have hs : isSmall 6 := by decide
  rw [show outT = sSeq (sAsg (dCall F_show_letter 1 [] (aCons (dCall F__law_some_letter 1 [] (aCons (dVar 1) (aNil))) (aNil))) (gNm 5)) (sSeq (sExpr (dMt "list" appendV (dVar 2) (aCons (dVar 5) (aNil)))) (sFor (iRg1 (aCons (dC (.int 6)) (aNil))) (gNm 6) inT)) from rfl]
  generalize hI : inT = I at e3
  generalize D.lst (Os.map .str) = OD at e3 ⊢
  generalize T.set k (.lst ((ts ++ [t]).map .str)) = T1 at a2 e3
  simp [e1, e2, a1, a2, sFor, iRg1, rng1, hs]
  exact e3
theorem out_loop {tb : Ob} {x0 x8 x9 : Option D} : ∀ (ds : List D) {m c k : Nat} {o : Ob} {T : Sto} {ts : List Str} {x4 x5 x6 x7 : Option D}, Hold m c o T k ts → m + 200 * ds.length ≤ 10000 → c + 20 * ds.length ≤ 1000 →
    ∃ (o' : Ob) (T' : Sto) (k' : Nat) (ts' : List Str) (y4 y5 y6 y7 : Option D), forD (gNm 4) outT ds [x0, some (.ref 1), some (.ref (k + 2)), some (.lst (Os.map .str)), x4, x5, x6, x7, x8, x9] (tb :: o :: T) =
      some (.nx [x0, some (.ref 1), some (.ref (k' + 2)), some (.lst (Os.map .str)), y4, y5, y6, y7, x8, x9] (tb :: o' :: T')) ∧ Hold (m + 200 * ds.length) (c + 20 * ds.length) o' T' k' ts'
  | [], m, c, k, o, T, ts, x4, x5, x6, x7, h, _, _ => ⟨o, T, k, ts, x4, x5, x6, x7, rfl, h⟩
  | d :: ds, m, c, k, o, T, ts, x4, x5, x6, x7, h, hm, hc => by
    rw [List.length_cons] at hm hc
    obtain ⟨o1, T1, k1, ts1, y5, y6, y7, e1, h1⟩ := out_turn (tb := tb) (x0 := x0) (x4 := some d) (x5 := x5) (x6 := x6) (x7 := x7) (x8 := x8) (x9 := x9) h (by omega) (by omega)
    obtain ⟨o2, T2, k2, ts2, z4, z5, z6, z7, e2, h2⟩ := out_loop (tb := tb) (x0 := x0) (x8 := x8) (x9 := x9) ds (x4 := some d) (x5 := y5) (x6 := y6) (x7 := y7) h1 (by omega) (by omega)
    refine ⟨o2, T2, k2, ts2, z4, z5, z6, z7, ?_, ⟨h2.pen.mono (by rw [List.length_cons]; omega), h2.at_, h2.ok, by have := h2.len; rw [List.length_cons]; omega⟩⟩
    rw [for_nm, show ([x0, some (.ref 1), some (.ref (k + 2)), some (.lst (Os.map .str)), x4, x5, x6, x7, x8, x9] : Env).set 4 (some d) = [x0, some (.ref 1), some (.ref (k + 2)), some (.lst (Os.map .str)), some d, x5, x6, x7, x8, x9] from rfl, e1, contD_nx]
    exact e2
end Cw

set_option maxRecDepth 100000
set_option maxHeartbeats 2000000
set_option linter.all false
/-! k79: the law. -/
namespace Cw
open PySem PySem.Spec PyProof.Rows L2
abbrev LQ : Str := "law.<locals>.<lambda>"
theorem dLam_at {P : Addr} {q : Str} {R : Thk → Thk} {B : DE} {δ : Env} {S : Sto} {k : Nat} (h : S[k]? = some (.tab P q)) : dLam P q R B δ S = R (B δ) S := by
  unfold dLam
  have hx : ∃ k : Nat, S[k]? = some (.tab P q) := ⟨k, h⟩
  simp only [hx, if_true]
theorem word_ok : ∀ w ∈ NUMB ++ BARE, okT 8 w := by
  have : ∀ w ∈ NUMB ++ BARE, w.length ≤ 8 ∧ ∀ c ∈ TL.tl w, c < 128 := by decide +kernel
  exact this
theorem shw_ltr {who word : Str} {a b c : Int} {qs : List PO} (ha : okN a) (hb : okN b) (hc : okN c) (h : isLt who word a b c qs = true) : PyShw 4 5000 (ltrD who word a b c qs) := by
  unfold isLt at h
  rw [Bool.and_eq_true] at h
  obtain ⟨h1, h2⟩ := h
  rw [Bool.and_eq_true] at h2
  obtain ⟨_, h2⟩ := h2
  rw [Bool.and_eq_true] at h2
  obtain ⟨_, h2⟩ := h2
  have key : okT 8 word ∧ qs.length ≤ 6 ∧ ∀ q ∈ qs, pOk q = true := by
    by_cases hw : word ∈ NUMB
    · rw [if_pos hw, Bool.and_eq_true] at h2
      have z := h2.2
      unfold arePs at z
      rw [Bool.and_eq_true, Bool.and_eq_true] at z
      exact ⟨word_ok _ (List.mem_append_left _ hw), of_decide_eq_true z.1, fun q hq => List.all_eq_true.mp z.2.1 q hq⟩
    · rw [if_neg hw, Bool.and_eq_true, Bool.and_eq_true, Bool.and_eq_true] at h2
      have e : qs = [] := of_decide_eq_true h2.2.2.2
      subst e
      exact ⟨word_ok _ (List.mem_append_right _ (of_decide_eq_true h2.1)), Nat.zero_le _, fun q hq => nomatch hq⟩
  obtain ⟨k1, k2, k3⟩ := key
  have zq : PyShw 2 700 (.tup (qs.map pairO)) := (shw_tup (k := 1) (b := 100) (ds := qs.map pairO) fun d hd => by
    obtain ⟨q, hq, e⟩ := List.mem_map.mp hd
    subst e
    have z := k3 q hq
    unfold pOk at z
    rw [Bool.and_eq_true] at z
    obtain ⟨k, o⟩ := q
    have n1 : okT 8 k := nm_okT z.1
    have z2 : PyShw 0 40 (optD o) := by
      cases o with
      | none => exact shw_non.mono (by decide) (by decide)
      | some i =>
        have z3 : 0 ≤ i ∧ i ≤ 9999 := of_decide_eq_true z.2
        exact (shw_int ⟨z3.1, by omega⟩).mono (by decide) (by decide)
    refine (shw_tup (k := 0) (b := 40) (ds := [.str k, optD o]) fun d hd => ?_).mono (by decide) (show 3 + 2 * 40 + 2 * 2 ≤ 100 by omega)
    rcases List.mem_cons.mp hd with e | hd
    · subst e
      exact (shw_str n1).mono (by decide) (by decide)
    · rw [List.mem_singleton.mp hd]
      exact z2).mono (by decide) (by rw [List.length_map]; omega)
  refine (shw_tup (k := 2) (b := 700) (ds := [.str who, .str word, .int a, .int b, .int c, .tup (qs.map pairO)]) fun d hd => ?_).mono (by decide) (show 3 + 6 * 700 + 6 * 2 ≤ 5000 by omega)
  simp only [List.mem_cons, List.not_mem_nil, or_false] at hd
  rcases hd with e | e | e | e | e | e <;> subst e
  · exact (shw_str (nm_okT h1)).mono (by decide) (by decide)
  · exact (shw_str k1).mono (by decide) (by decide)
  · exact (shw_int ha).mono (by decide) (by decide)
  · exact (shw_int hb).mono (by decide) (by decide)
  · exact (shw_int hc).mono (by decide) (by decide)
  · exact zq
theorem readV_shw {t : Str} {d : D} (h : readV t = some d) : PyShw 4 5000 d := by
  unfold readV at h
  split at h
  · split at h
    · rename_i e1 e2 e3 e4
      split at h
      · rename_i hl
        cases h
        exact shw_ltr (numV_okN e1) (numV_okN e2) (numV_okN e3) hl
      · cases h
    · cases h
  · cases h
theorem readV_low {t : Str} {d : D} (h : readV t = some d) (n : Nat) : lowD n d = true := by
  have z := low_due n t
  rw [h] at z
  have z' : (lowD n d && true) = true := z
  simpa using z'
theorem reprDue (t : Str) : ∃ r : Str, ∀ S, reprV (dueO (readV t)) S = some (.str r, S) := by
  cases e : readV t with
  | none => exact reprT (k := 1) (b := 100) (ds := [.int 0]) ((shw_tup (k := 0) (b := 12) (ds := [.int 0]) fun d hd => by
      rw [List.mem_singleton.mp hd]
      exact shw_int ⟨by decide, by decide⟩).mono (by decide) (by decide)) (by decide) (by decide)
  | some d => exact reprL (k := 5) (b := 6000) (ds := [d]) ((shw_lst (k := 4) (b := 5000) (ds := [d]) fun x hx => by
      rw [List.mem_singleton.mp hx]
      exact readV_shw e).mono (by decide) (show 3 + 1 * 5000 + 1 * 2 ≤ 6000 by omega)) (by decide) (by decide)
noncomputable abbrev coreT (PT : Addr) : DS := sIf (asT (dOp neV' (dCB (g1 reprV) (aCons (dLam PT LQ (lamR 4 d__law_refusal) (dCall F_read_letter 1 [] (aCons (dVar 5) (aNil)))) (aNil))) (dCB (g1 reprV) (aCons (dCall F__law_due 1 [] (aCons (dVar 5) (aNil))) (aNil))))) (sRet (dC (.bl false))) (sNext)
theorem core_turn {PT : Addr} {S : Sto} {t : Str} {x0 x1 x2 x3 x4 x6 x7 x8 x9 : Option D} (hS : S[0]? = some (.tab PT LQ)) (ht : okT 20000 t) :
    coreT PT [x0, x1, x2, x3, x4, some (.str t), x6, x7, x8, x9] S = some (.nx [x0, x1, x2, x3, x4, some (.str t), x6, x7, x8, x9] S) := by
  obtain ⟨r, hr⟩ := reprDue t
  have hd := due ht (by decide) S
  have hB : ∀ S', dCall F_read_letter 1 [] (aCons (dVar 5) (aNil)) [x0, x1, x2, x3, x4, some (.str t), x6, x7, x8, x9] S' = outR S' (readV t) := fun S' => by
    rw [← readLetter ht (by decide) S']
    simp
  have hl := dLam_at (P := PT) (q := LQ) (R := lamR 4 d__law_refusal) (B := dCall F_read_letter 1 [] (aCons (dVar 5) (aNil))) (δ := [x0, x1, x2, x3, x4, some (.str t), x6, x7, x8, x9]) hS
  have hq : lamR 4 d__law_refusal (dCall F_read_letter 1 [] (aCons (dVar 5) (aNil)) [x0, x1, x2, x3, x4, some (.str t), x6, x7, x8, x9]) S = some (.ok (dueO (readV t)) S) := by
    cases e : readV t with
    | none => exact refuse_exc (fun L => by rw [hB, e]; rfl) rfl
    | some d => exact refuse_ok (fun L => by rw [hB, e]; rfl) (readV_low e _)
  rw [hq] at hl
  generalize dueO (readV t) = dd at hd hl hr
  simp [coreT, hl, hr, hd, g1]
theorem core_loop {PT : Addr} {S : Sto} {x0 x1 x2 x3 x4 x6 x7 x8 x9 : Option D} (hS : S[0]? = some (.tab PT LQ)) : ∀ (ts : List Str) {x5 : Option D}, (∀ t ∈ ts, okT 20000 t) →
    ∃ y5, forD (gNm 5) (coreT PT) (ts.map .str) [x0, x1, x2, x3, x4, x5, x6, x7, x8, x9] S = some (.nx [x0, x1, x2, x3, x4, y5, x6, x7, x8, x9] S)
  | [], x5, _ => ⟨x5, rfl⟩
  | t :: ts, x5, h => by
    obtain ⟨y5, e⟩ := core_loop (PT := PT) (S := S) (x0 := x0) (x1 := x1) (x2 := x2) (x3 := x3) (x4 := x4) (x6 := x6) (x7 := x7) (x8 := x8) (x9 := x9) hS ts (x5 := some (.str t)) fun u hu => h u (List.mem_cons_of_mem _ hu)
    refine ⟨y5, ?_⟩
    rw [List.map_cons, for_nm, show ([x0, x1, x2, x3, x4, x5, x6, x7, x8, x9] : Env).set 5 (some (.str t)) = [x0, x1, x2, x3, x4, some (.str t), x6, x7, x8, x9] from rfl, core_turn hS (h t List.mem_cons_self), contD_nx]
    exact e
noncomputable abbrev thT (PT : Addr) : DS := sIf (asT (dOp neV' (dLam PT LQ (lamR 4 d__law_refusal) (dCall F_read_letter 1 [] (aCons (dVar 8) (aNil)))) (dTup (aCons (dC .non) (aNil))))) (sRet (dC (.bl false))) (sNext)
theorem readBad {d : D} {S : Sto} (h : isiV d (.ty "str") S = some (.bl false, S)) : F_read_letter [d] S = some (.exc (XT .non) S) := by
  simp [F_read_letter, body, d_read_letter, needTextN h]
theorem ne_non (S : Sto) : neV' (.tup [.non]) (.tup [.non]) S = some (.bl false, S) := by
  have sh : SeqAt.shaped (.tuple [.none]) = true := by decide +kernel
  have ev : PyData.eqv (.tuple [.none]) (.tuple [.none]) = true := by decide +kernel
  have z : eqvV S (.tup [.non]) (.tup [.non]) = (if SeqAt.shaped (.tuple [.none]) = true ∧ SeqAt.shaped (.tuple [.none]) = true then some (PyData.eqv (.tuple [.none]) (.tuple [.none])) else none) := rfl
  show (eqvV S _ _).map _ = _
  rw [z, if_pos ⟨sh, sh⟩, ev]
  rfl
theorem th_turn {PT : Addr} {S : Sto} {d : D} {x0 x1 x2 x3 x4 x5 x6 x7 x9 : Option D} (hS : S[0]? = some (.tab PT LQ)) (hd : ∀ L : LamR, isiV d (.ty "str") (S ++ [.lam L]) = some (.bl false, S ++ [.lam L])) :
    thT PT [x0, x1, x2, x3, x4, x5, x6, x7, some d, x9] S = some (.nx [x0, x1, x2, x3, x4, x5, x6, x7, some d, x9] S) := by
  have hl := dLam_at (P := PT) (q := LQ) (R := lamR 4 d__law_refusal) (B := dCall F_read_letter 1 [] (aCons (dVar 8) (aNil))) (δ := [x0, x1, x2, x3, x4, x5, x6, x7, some d, x9]) hS
  have hq : lamR 4 d__law_refusal (dCall F_read_letter 1 [] (aCons (dVar 8) (aNil)) [x0, x1, x2, x3, x4, x5, x6, x7, some d, x9]) S = some (.ok (.tup [.non]) S) := refuse_exc (fun L => by
    have z := readBad (hd L)
    simp [z]) rfl
  rw [hq] at hl
  simp [thT, hl, ne_non, big_eq]
theorem th_loop {PT : Addr} {S : Sto} {x0 x1 x2 x3 x4 x5 x6 x7 x9 : Option D} (hS : S[0]? = some (.tab PT LQ)) : ∀ (ds : List D) {x8 : Option D}, (∀ d ∈ ds, ∀ L : LamR, isiV d (.ty "str") (S ++ [.lam L]) = some (.bl false, S ++ [.lam L])) →
    ∃ y8, forD (gNm 8) (thT PT) ds [x0, x1, x2, x3, x4, x5, x6, x7, x8, x9] S = some (.nx [x0, x1, x2, x3, x4, x5, x6, x7, y8, x9] S)
  | [], x8, _ => ⟨x8, rfl⟩
  | d :: ds, x8, h => by
    obtain ⟨y8, e⟩ := th_loop (PT := PT) (S := S) (x0 := x0) (x1 := x1) (x2 := x2) (x3 := x3) (x4 := x4) (x5 := x5) (x6 := x6) (x7 := x7) (x9 := x9) hS ds (x8 := some d) fun u hu => h u (List.mem_cons_of_mem _ hu)
    refine ⟨y8, ?_⟩
    rw [for_nm, show ([x0, x1, x2, x3, x4, x5, x6, x7, x8, x9] : Env).set 8 (some d) = [x0, x1, x2, x3, x4, x5, x6, x7, some d, x9] from rfl, th_turn hS (h d List.mem_cons_self), contD_nx]
    exact e
end Cw

set_option maxRecDepth 100000
set_option maxHeartbeats 2000000
set_option linter.all false
/-! k79: the law is true. -/
namespace Cw
open PySem PySem.Spec PyProof.Rows L2
theorem penMake (ns : List Int) (tb : Ob) : ∃ cs, F__law_pen [.scr (ns.map .int)] [tb] = some (.ok (.ref 1) [tb, pen cs 0 0]) := by
  refine ⟨ns.take 63, ?_⟩
  have sl : slV (.scr (ns.map .int)) none (some 63) [tb] = some (.lst ((ns.take 63).map .int), [tb]) := by
    show some (D.lst (cutD (ns.map .int) none (some ((63 : Nat) : Int))), ([tb] : Sto)) = _
    rw [cut_to, List.map_take]
  have k1 : ¬ (Sum.inr ("cells" : Str) : Key) = Sum.inr ("at" : Str) := by decide +kernel
  have k2 : ¬ (Sum.inr ("cells" : Str) : Key) = Sum.inr ("left" : Str) := by decide +kernel
  have k3 : ¬ (Sum.inr ("at" : Str) : Key) = Sum.inr ("left" : Str) := by decide +kernel
  have ld : ∀ a b c : D, laid [(.inr "cells", a), (.inr "at", b), (.inr "left", c)] = [(.inr "cells", a), (.inr "at", b), (.inr "left", c)] := fun a b c => by
    simp [laid, putA, k1, k2, k3]
  generalize (ns.map D.int) = L at sl ⊢
  simp [F__law_pen, body, d__law_pen, dDic, dPs, sl, g1, list1, items, keyed, kOf, ld, pen]
def kT (z : Str) : List Str := (TL.tl z).map fun c => (⟨#[c]⟩ : Str) ++ "=1"
def fK : D → D := fun d => match d with
  | .str s => .str (s ++ "=1")
  | d => d
theorem k_comp {z : Str} {n : Nat} (h : okT n z) (hn : n ≤ 100) {x0 x1 x2 x3 x4 x5 x6 x7 x8 x9 : Option D} (S : Sto) :
    lcD [9] (gNm 9) tYesD (dOp addV (dVar 9) (dC (.str "=1"))) (z.cps.toList.map sgn) [x0, x1, x2, x3, x4, x5, x6, x7, x8, x9] S [] = some (.ok ((kT z).map .str) S) := by
  have l1 : ("=1" : Str).length = 2 := by decide +kernel
  have e := lc_map (A := dOp addV (dVar 9) (dC (.str "=1"))) (vs := [9]) (G := gNm 9) (δ := [x0, x1, x2, x3, x4, x5, x6, x7, x8, x9]) (S := S) (f := fK) (ds := z.cps.toList.map sgn) (acc := []) (fun d hd => by
    obtain ⟨c, hc, e⟩ := List.mem_map.mp hd
    subst e
    have ad : ∀ S, addV (.str ⟨#[c]⟩) (.str "=1") S = some (.str ((⟨#[c]⟩ : Str) ++ "=1"), S) := fun S => add_ss (by rw [l1, big_eq]; show 1 + 2 ≤ 1000000; omega)
    exact ⟨_, rfl, by simp [wipeD, ad, fK, sgn]⟩) (by
    rw [List.length_map, Array.length_toList, big_eq]
    have h1 : z.cps.size ≤ n := h.1
    show 0 + z.cps.size ≤ 1000000
    omega)
  rw [List.nil_append] at e
  rw [e]
  unfold kT
  rw [List.map_map, List.map_map]
  rfl
theorem kT_ok {z : Str} {n : Nat} (h : okT n z) (hn : n ≤ 100) : okT (4 * n) (Txt.join " " (kT z)) := by
  have lk : okT 2 "=1" := by
    have : ("=1" : Str).length ≤ 2 ∧ ∀ c ∈ TL.tl "=1", c < 128 := by decide +kernel
    exact this
  have key : ∀ w ∈ kT z, okT 3 w := fun w hw => by
    obtain ⟨c, hc, e⟩ := List.mem_map.mp hw
    subst e
    exact okT.app (n := 1) (m := 2) ⟨Nat.le_refl _, fun d hd => by
      have hd' : d ∈ [c] := hd
      rw [List.mem_singleton.mp hd']
      exact h.2 c hc⟩ lk
  have hw : wt (kT z) ≤ 4 * (kT z).length := by
    have k2 : ∀ l : List Str, (∀ w ∈ l, okT 3 w) → wt l ≤ 4 * l.length := by
      intro l
      induction l with
      | nil => intro _; simp [wt]
      | cons x l ih =>
        intro hx
        have z1 := (hx x List.mem_cons_self).1
        have z2 := ih fun w hw => hx w (List.mem_cons_of_mem _ hw)
        rw [wt_cons, List.length_cons]
        omega
    exact k2 _ key
  have hl : (kT z).length ≤ n := by
    unfold kT
    rw [List.length_map, ← TL.len_tl]
    exact h.1
  exact okT.join sep_sp (by decide) (by omega) fun w hw => (key w hw).2
theorem kT_wt {z : Str} {n : Nat} (h : okT n z) (hn : n ≤ 100) : wt (kT z) ≤ 16777216 := by
  have l1 : ("=1" : Str).length = 2 := by decide +kernel
  have k2 : ∀ l : List Str, (∀ w ∈ l, w.length ≤ 3) → wt l ≤ 4 * l.length := by
    intro l
    induction l with
    | nil => intro _; simp [wt]
    | cons x l ih =>
      intro hx
      have z1 := hx x List.mem_cons_self
      have z2 := ih fun w hw => hx w (List.mem_cons_of_mem _ hw)
      rw [wt_cons, List.length_cons]
      omega
  have := k2 (kT z) fun w hw => by
    obtain ⟨c, hc, e⟩ := List.mem_map.mp hw
    subst e
    rw [Str.length_append, l1]
    exact Nat.le_refl _
  have hl : (kT z).length ≤ n := by
    unfold kT
    rw [List.length_map, ← TL.len_tl]
    exact h.1
  omega
def A1 : List Str := ["", " ", "a", "a ask 1 0 1", "a ask 1 0 0", "a ask 0 0 1", "a ask 1 0 01", "a ask 1 0 1 "]
def A2 : List Str := ["a ask 1 0 1\n", "a bye 1 0 0",
  "a bye 1 0 1", "a bye 1 0 0 k=1", "a Ask 1 0 1"]
def A3 : List Str := ["a ask 1 0 1 k=1 k=2", "a ask 1 0 1 k", "a ask 1 0 1 k=10000", "a ask 1 0 1 k==1", "a ask 1 0 1 k="]
def A4 : List Str := ["a ask 1 0 1 =1", "a ask 1 0 1 k=01", "a ask 1 -1 1", "a ask 10000000000 0 1"]
def A5 : List Str := ["a ask 9999999999 0 1", "abcdefghi ask 1 0 1", "a there 1 2 0"]
def AA : List Str := A1 ++ A2 ++ A3 ++ A4 ++ A5
theorem aa_ok : ∀ w ∈ AA, okT 20000 w := by
  have : ∀ w ∈ AA, w.length ≤ 20000 ∧ ∀ c ∈ TL.tl w, c < 128 := by decide +kernel
  exact this
theorem ask_ok : okT 20 "a ask 1 0 1 " := by
  have : ("a ask 1 0 1 " : Str).length ≤ 20 ∧ ∀ c ∈ TL.tl "a ask 1 0 1 ", c < 128 := by decide +kernel
  exact this
theorem z6_ok : okT 10 "abcdef" := by
  have : ("abcdef" : Str).length ≤ 10 ∧ ∀ c ∈ TL.tl "abcdef", c < 128 := by decide +kernel
  exact this
theorem z7_ok : okT 10 "abcdefg" := by
  have : ("abcdefg" : Str).length ≤ 10 ∧ ∀ c ∈ TL.tl "abcdefg", c < 128 := by decide +kernel
  exact this
def THS (n : Nat) : List D := [.non, .bl true, .int 0, .lst [], .lst [.str "a"], .tup [.str "a", .str "ask", .int 1, .int 0, .int 1, .tup []], .ref n]
theorem things {S : Sto} : ∀ d ∈ THS S.length, ∀ L : LamR, isiV d (.ty "str") ((S ++ [.dic []]) ++ [.lam L]) = some (.bl false, (S ++ [.dic []]) ++ [.lam L]) := fun d hd L => by
  have q1 : kitB "bool" "str" = some false := by decide +kernel
  have q2 : kitB "int" "str" = some false := by decide +kernel
  have q3 : kitB "list" "str" = some false := by decide +kernel
  have q4 : kitB "tuple" "str" = some false := by decide +kernel
  have q5 : kitB "dict" "str" = some false := by decide +kernel
  have hS : ((S ++ [Ob.dic []]) ++ [.lam L])[S.length]? = some (.dic []) := by
    rw [List.getElem?_append_left (by simp)]
    simp
  have tn : tyName ((S ++ [Ob.dic []]) ++ [.lam L]) (.ref S.length) = some "dict" := by
    unfold tyName
    dsimp only
    rw [hS]
  simp only [THS, List.mem_cons, List.not_mem_nil, or_false] at hd
  generalize (S ++ [Ob.dic []]) ++ [.lam L] = S2 at tn
  rcases hd with e | e | e | e | e | e | e <;> subst e
  · simp [isiV, tyName, kit7]
  · simp [isiV, tyName, q1]
  · simp [isiV, tyName, q2]
  · simp [isiV, tyName, q3]
  · simp [isiV, tyName, q3]
  · simp [isiV, tyName, q4]
  · simp [isiV, tn, q5]
theorem law_true (PT : Addr) (ns : List Int) (h : ns.length ≤ 63) : ∃ S', F_law PT [.scr (ns.map D.int)] [.tab PT LQ] = some (.ok (.bl true) S') := by
  obtain ⟨cs, e1⟩ := penMake ns (.tab PT LQ)
  have hp : PenOk 0 (pen cs 0 0) := ⟨cs, 0, 0, rfl, by decide, by decide, by decide⟩
  generalize pen cs 0 0 = p0 at e1 hp
  generalize htb : Ob.tab PT LQ = tb at e1
  let l1 : List D := A1.map .str
  let l2 : List D := (A1 ++ A2).map .str
  let l3 : List D := (A1 ++ A2 ++ A3).map .str
  let l4 : List D := (A1 ++ A2 ++ A3 ++ A4).map .str
  let l5 : List D := AA.map .str
  have f2 : addVO (.ref 2) (.lst (A2.map .str)) [tb, p0, .lst l1] = some (.ref 3, [tb, p0, .lst l1, .lst l2]) := rfl
  have f3 : addVO (.ref 3) (.lst (A3.map .str)) [tb, p0, .lst l1, .lst l2] = some (.ref 4, [tb, p0, .lst l1, .lst l2, .lst l3]) := rfl
  have f4 : addVO (.ref 4) (.lst (A4.map .str)) [tb, p0, .lst l1, .lst l2, .lst l3] = some (.ref 5, [tb, p0, .lst l1, .lst l2, .lst l3, .lst l4]) := rfl
  have f5 : addVO (.ref 5) (.lst (A5.map .str)) [tb, p0, .lst l1, .lst l2, .lst l3, .lst l4] = some (.ref 6, [tb, p0, .lst l1, .lst l2, .lst l3, .lst l4, .lst l5]) := rfl
  have f1 : ([tb, p0] : Sto) ++ [.lst l1] = [tb, p0, .lst l1] := rfl
  have H0 : Hold 0 25 p0 [.lst l1, .lst l2, .lst l3, .lst l4, .lst l5] 4 AA := ⟨hp, rfl, aa_ok, by decide⟩
  have k6 := kT_ok z6_ok (by decide)
  have k7 := kT_ok z7_ok (by decide)
  have j6 := fun S => join_wok (sep := " ") (l := kT "abcdef") (S := S) sep_sp (kT_wt z6_ok (by decide))
  have j7 := fun S => join_wok (sep := " ") (l := kT "abcdefg") (S := S) sep_sp (kT_wt z7_ok (by decide))
  have c6 := fun x0 x1 x2 x3 x4 x5 x6 x7 x8 x9 S => k_comp z6_ok (by decide) (x0 := x0) (x1 := x1) (x2 := x2) (x3 := x3) (x4 := x4) (x5 := x5) (x6 := x6) (x7 := x7) (x8 := x8) (x9 := x9) S
  have c7 := fun x0 x1 x2 x3 x4 x5 x6 x7 x8 x9 S => k_comp z7_ok (by decide) (x0 := x0) (x1 := x1) (x2 := x2) (x3 := x3) (x4 := x4) (x5 := x5) (x6 := x6) (x7 := x7) (x8 := x8) (x9 := x9) S
  generalize Txt.join " " (kT "abcdef") = J6 at j6 k6
  generalize Txt.join " " (kT "abcdefg") = J7 at j7 k7
  generalize (kT "abcdef").map D.str = D6 at j6 c6
  generalize (kT "abcdefg").map D.str = D7 at j7 c7
  have la := ask_ok.1
  have b6 : ∀ S, addV (.str "a ask 1 0 1 ") (.str J6) S = some (.str ("a ask 1 0 1 " ++ J6), S) := fun S => add_ss (by have := k6.1; rw [big_eq]; omega)
  have b7 : ∀ S, addV (.str "a ask 1 0 1 ") (.str J7) S = some (.str ("a ask 1 0 1 " ++ J7), S) := fun S => add_ss (by have := k7.1; rw [big_eq]; omega)
  have q6 : okT 20000 ("a ask 1 0 1 " ++ J6) := (ask_ok.app k6).mono (by omega)
  have q7 : okT 20000 ("a ask 1 0 1 " ++ J7) := (ask_ok.app k7).mono (by omega)
  generalize ("a ask 1 0 1 " : Str) ++ J6 = t6 at b6 q6
  generalize ("a ask 1 0 1 " : Str) ++ J7 = t7 at b7 q7
  obtain ⟨y6, a6, H6⟩ := app_hold (tb := tb) H0 (by omega) q6
  obtain ⟨y7, a7, H7⟩ := app_hold (tb := tb) H6 (by omega) q7
  generalize ([.lst l1, .lst l2, .lst l3, .lst l4, .lst l5] : Sto).set 4 (.lst ((AA ++ [t6]).map .str)) = T6 at y7 a6 a7 H6 H7
  generalize T6.set 4 (.lst ((AA ++ [t6] ++ [t7]).map .str)) = T7 at a7 H7
  have y6' : tyD [tb, p0, .lst l1, .lst l2, .lst l3, .lst l4, .lst l5] "list" (.ref 6) = true := y6
  have a6' : appendV (.ref 6) [.str t6] [tb, p0, .lst l1, .lst l2, .lst l3, .lst l4, .lst l5] = some (.non, tb :: p0 :: T6) := a6
  have y7' : tyD (tb :: p0 :: T6) "list" (.ref 6) = true := y7
  have a7' : appendV (.ref 6) [.str t7] (tb :: p0 :: T6) = some (.non, tb :: p0 :: T7) := a7
  have os : ∀ S, addV (.lst [.str "ask", .str "yes", .str "bye", .str "here", .str "0", .str "1", .str "01", .str "k=1", .str "k=9999", .str "l=10000", .str "a", .str "", .str "k", .str "="]) (.lst [.str "rather", .str "o=0"]) S = some (.lst (Os.map .str), S) := fun S => rfl
  obtain ⟨o8, T8, k8, ts, y4, y5, y6, y7, e8, H8⟩ := out_loop (tb := tb) (x0 := some (.scr (ns.map D.int))) (x8 := none) (x9 := none) (upto 0 5) (x4 := none) (x5 := none) (x6 := none) (x7 := none) H7 (by rw [upto_len]; omega) (by rw [upto_len]; omega)
  have s0 : (tb :: o8 :: T8 : Sto)[0]? = some (.tab PT LQ) := by rw [← htb]; rfl
  have l8 : lstOf (tb :: o8 :: T8) (.ref (k8 + 2)) = some (ts.map .str) := lst_ref (by rw [at2k]; exact H8.at_)
  have tl := H8.len
  rw [upto_len] at tl
  have sl9 : slV (.ref (k8 + 2)) none (some 9) (tb :: o8 :: T8) = some (.lst ((ts.take 9).map .str), tb :: o8 :: T8) := by
    show (match lsOf (tb :: o8 :: T8) (.ref (k8 + 2)) with
      | some ds => some (D.lst (cutD ds none (some ((9 : Nat) : Int))), (tb :: o8 :: T8 : Sto))
      | none => none) = _
    have z : lsOf (tb :: o8 :: T8) (.ref (k8 + 2)) = some (ts.map .str) := l8
    rw [z]
    dsimp only
    rw [cut_to, List.map_take]
  have ad9 : addV (.ref (k8 + 2)) (.lst ((ts.take 9).map .str)) (tb :: o8 :: T8) = some (.lst ((ts ++ ts.take 9).map .str), tb :: o8 :: T8) := by
    show (match lstOf (tb :: o8 :: T8) (.ref (k8 + 2)), some ((ts.take 9).map D.str) with
      | some a, some b => if a.length + b.length ≤ big then some (D.lst (a ++ b), (tb :: o8 :: T8 : Sto)) else none
      | _, _ => none) = _
    rw [l8]
    dsimp only
    rw [if_pos (by rw [List.length_map, List.length_map, List.length_take, big_eq]; omega), List.map_append]
  obtain ⟨z5, e9⟩ := core_loop (PT := PT) (x0 := some (.scr (ns.map D.int))) (x1 := some (.ref 1)) (x2 := some (.ref (k8 + 2))) (x3 := some (.lst (Os.map .str))) (x4 := y4) (x6 := y6) (x7 := y7) (x8 := none) (x9 := none) s0 (ts ++ ts.take 9) (x5 := y5) (fun t ht => (List.mem_append.mp ht).elim (H8.ok t) fun z => H8.ok t (List.mem_of_mem_take z))
  have s1 : ((tb :: o8 :: T8) ++ [Ob.dic []] : Sto)[0]? = some (.tab PT LQ) := by rw [← htb]; rfl
  obtain ⟨z8, e10⟩ := th_loop (PT := PT) (x0 := some (.scr (ns.map D.int))) (x1 := some (.ref 1)) (x2 := some (.ref (k8 + 2))) (x3 := some (.lst (Os.map .str))) (x4 := y4) (x5 := z5) (x6 := y6) (x7 := y7) (x9 := none) s1 (THS (tb :: o8 :: T8 : Sto).length) (x8 := none) things
  have hs5 : isSmall 5 := by decide
  have st : ∀ l : List D, still (.lst l) = some l := fun l => rfl
  have l0 : ([.str "", .str " ", .str "a", .str "a ask 1 0 1", .str "a ask 1 0 0", .str "a ask 0 0 1", .str "a ask 1 0 01", .str "a ask 1 0 1 "] : List D) = l1 := rfl
  refine ⟨(tb :: o8 :: T8) ++ [Ob.dic []], ?_⟩
  generalize (ts ++ ts.take 9).map D.str = TA at ad9 e9
  generalize (ts.take 9).map D.str = TK at sl9 ad9
  generalize D.scr (ns.map D.int) = sc at e1 e8 e9 e10 ⊢
  simp only [A2, A3, A4, A5, List.map_cons, List.map_nil] at f2 f3 f4 f5
  have ll : l1.length ≤ 1000000 := by show 8 ≤ 1000000; omega
  clear_value l1 l2 l3 l4 l5
  generalize D.lst (Os.map .str) = OD at os e8 e9 e10
  simp [F_law, body, d_law, e1, l0, ll, f2, f3, f4, f5, big_eq, dLc, iStrD, y6', ty_str]
  rw [c6]
  simp [ty_str, j6, b6, a6', y7', dLc, iStrD]
  rw [c7]
  simp [ty_str, j7, b7, a7', os, sFor, iRg1, rng1, hs5]
  have e8' : forD (gNm 4) outT (upto 0 5) [some sc, some (.ref 1), some (.ref 6), some OD, none, none, none, none, none, none] (tb :: p0 :: T7) = some (.nx [some sc, some (.ref 1), some (.ref (k8 + 2)), some OD, y4, y5, y6, y7, none, none] (tb :: o8 :: T8)) := e8
  rw [e8']
  simp [iSeq, sl9, ad9, st, -List.map_append]
  rw [e9]
  have e10' : forD (gNm 8) (thT PT) [.non, .bl true, .int 0, .lst [], .lst [.str "a"], .tup [.str "a", .str "ask", .int 1, .int 0, .int 1, .tup []], .ref (T8.length + 1 + 1)] [some sc, some (.ref 1), some (.ref (k8 + 2)), some OD, y4, z5, y6, y7, none, none] (tb :: o8 :: (T8 ++ [Ob.dic []])) = some (.nx [some sc, some (.ref 1), some (.ref (k8 + 2)), some OD, y4, z5, y6, y7, z8, none] (tb :: o8 :: (T8 ++ [Ob.dic []]))) := e10
  simp [iSeq, dDic0, big_eq, st]
  rw [e10']
end Cw

set_option linter.all false
set_option maxRecDepth 100000
set_option maxHeartbeats 0
namespace Hd
open PySem PySem.Spec PyProof.Rows L2 Cw
def d__law_pen : He.DefD := ⟨("_law_pen", none), "_law_pen", "_law_pen", defArgs (top 35), defBody (top 35), defScope (top 35), [], []⟩
def d_show_letter : He.DefD := ⟨("show_letter", none), "show_letter", "show_letter", defArgs (top 33), defBody (top 33), defScope (top 33), [], []⟩
def d__law_draw : He.DefD := ⟨("_law_draw", none), "_law_draw", "_law_draw", defArgs (top 36), defBody (top 36), defScope (top 36), [], []⟩
def d__law_number : He.DefD := ⟨("_law_number", none), "_law_number", "_law_number", defArgs (top 38), defBody (top 38), defScope (top 38), [], []⟩
def d__law_kinds : He.DefD := ⟨("_law_kinds", none), "_law_kinds", "_law_kinds", defArgs (top 37), defBody (top 37), defScope (top 37), [], []⟩
def d__law_pairs : He.DefD := ⟨("_law_pairs", none), "_law_pairs", "_law_pairs", defArgs (top 39), defBody (top 39), defScope (top 39), [], []⟩
def d__law_some_letter : He.DefD := ⟨("_law_some_letter", none), "_law_some_letter", "_law_some_letter", defArgs (top 40), defBody (top 40), defScope (top 40), [], []⟩
def d__law_refusal : He.DefD := ⟨("_law_refusal", none), "_law_refusal", "_law_refusal", defArgs (top 44), defBody (top 44), defScope (top 44), [], []⟩
def d__law_number_in : He.DefD := ⟨("_law_number_in", none), "_law_number_in", "_law_number_in", defArgs (top 43), defBody (top 43), defScope (top 43), [], []⟩
def d__law_is_name : He.DefD := ⟨("_law_is_name", none), "_law_is_name", "_law_is_name", defArgs (top 41), defBody (top 41), defScope (top 41), [], []⟩
def d__law_is_worth : He.DefD := ⟨("_law_is_worth", none), "_law_is_worth", "_law_is_worth", defArgs (top 42), defBody (top 42), defScope (top 42), [], []⟩
def d__law_due : He.DefD := ⟨("_law_due", none), "_law_due", "_law_due", defArgs (top 47), defBody (top 47), defScope (top 47), [], []⟩
def d__law_sign_bent : He.DefD := ⟨("_law_sign_bent", none), "_law_sign_bent", "_law_sign_bent", defArgs (top 45), defBody (top 45), defScope (top 45), [], []⟩
def d__law_word_bent : He.DefD := ⟨("_law_word_bent", none), "_law_word_bent", "_law_word_bent", defArgs (top 46), defBody (top 46), defScope (top 46), [], []⟩
def d_need_text : He.DefD := ⟨("need_text", none), "need_text", "need_text", defArgs (top 28), defBody (top 28), defScope (top 28), [], []⟩
def d_need : He.DefD := ⟨("need", none), "need", "need", defArgs (top 27), defBody (top 27), defScope (top 27), [], [("line", .int 0)]⟩
def d_number_by : He.DefD := ⟨("number_by", none), "number_by", "number_by", defArgs (top 29), defBody (top 29), defScope (top 29), [], []⟩
def d_is_count : He.DefD := ⟨("is_count", none), "is_count", "is_count", defArgs (top 20), defBody (top 20), defScope (top 20), [], []⟩
def d_is_name : He.DefD := ⟨("is_name", none), "is_name", "is_name", defArgs (top 14), defBody (top 14), defScope (top 14), [], []⟩
def d_is_worth : He.DefD := ⟨("is_worth", none), "is_worth", "is_worth", defArgs (top 15), defBody (top 15), defScope (top 15), [], []⟩
def d_is_pair : He.DefD := ⟨("is_pair", none), "is_pair", "is_pair", defArgs (top 21), defBody (top 21), defScope (top 21), [], []⟩
def d_are_pairs : He.DefD := ⟨("are_pairs", none), "are_pairs", "are_pairs", defArgs (top 22), defBody (top 22), defScope (top 22), [], []⟩
def d_is_letter : He.DefD := ⟨("is_letter", none), "is_letter", "is_letter", defArgs (top 23), defBody (top 23), defScope (top 23), [], []⟩
def d_pair_by : He.DefD := ⟨("pair_by", none), "pair_by", "pair_by", defArgs (top 30), defBody (top 30), defScope (top 30), [], []⟩
def d_read_letter : He.DefD := ⟨("read_letter", none), "read_letter", "read_letter", defArgs (top 31), defBody (top 31), defScope (top 31), [], []⟩
def d_law : He.DefD := ⟨("law", none), "law", "law", defArgs (top 48), defBody (top 48), defScope (top 48), [], []⟩
def i_NoText : Stmt := inClass (top 8) 0
def d_NoText_init : He.DefD := ⟨("NoText", some "__init__"), "__init__", "NoText.__init__", defArgs i_NoText, defBody i_NoText, defScope i_NoText, [], []⟩
def exs (K : PySem.W.Frag) : Bool := gtupB K "NUMBERED" ["ask", "yes", "no", "rather"] && (gtupB K "BARE" ["bye", "here", "there"] && (ownB K "NoText" "line" && (iniB K "WishError" && (exmB K "WishError" [("NoText", true)] && (xfsB K "line" ["NoText"] && (isxB K [("NoText", "NoDeed", false), ("NoText", "NoLine", false), ("NoText", "NoSaved", false), ("NoText", "NoTalk", false), ("NoText", "NotClosed", false), ("NoText", "NotOpen", false), ("NoText", "TooMany", false), ("NoText", "NoText", true)] [("NoText", "ValueError", true)]))))))
def fn : List He.DefD := [d__law_pen, d_show_letter, d__law_draw, d__law_number, d__law_kinds, d__law_pairs, d__law_some_letter, d__law_refusal, d__law_number_in, d__law_is_name, d__law_is_worth, d__law_due, d__law_sign_bent, d__law_word_bent, d_need_text, d_need, d_number_by, d_is_count, d_is_name, d_is_worth, d_is_pair, d_are_pairs, d_is_letter, d_pair_by, d_read_letter, d_law, d_NoText_init]
def fa0 : List He.Fa := [.glo "_law_pen", .glo "show_letter", .glo "_law_draw", .glo "_law_number", .glo "_law_kinds", .glo "_law_pairs", .glo "_law_some_letter", .glo "_law_refusal", .glo "_law_number_in", .glo "_law_is_name", .glo "_law_is_worth", .glo "_law_due", .glo "_law_sign_bent", .glo "_law_word_bent", .glo "need_text", .glo "need", .glo "number_by", .glo "is_count", .glo "is_name", .glo "is_worth", .glo "is_pair", .glo "are_pairs", .glo "is_letter", .glo "pair_by", .glo "read_letter", .glo "law", .free "list", .free "str", .free "len", .free "abs"]
def fa1 : List He.Fa := [.free "int", .free "range", .free "tuple", .free "max", .free "isinstance", .free "ValueError", .free "bool", .free "min", .free "set", .int "MOST_FIGURES" 10, .str "FIGURES" "0123456789", .free "all", .int "LONGEST" 8, .str "LETTERS" "abcdefghijklmnopqrstuvwxyz", .int "GREATEST" 9999, .int "MOST_PAIRS" 6, .free "repr", .glo "WishError", .glo "TooMany", .glo "NotOpen", .glo "NotClosed", .glo "NoTalk", .glo "NoSaved", .glo "NoLine", .glo "NoDeed", .glo "NoText", .glo "NUMBERED", .glo "BARE"]
def fa : List He.Fa := fa0 ++ fa1
def loose0 : List Str := ["WishError", "NotClosed", "NotOpen", "NoDeed", "TooMany", "NoTalk", "NoSaved", "NoText", "NoLine", "LETTERS", "LONGEST", "GREATEST", "is_name", "is_worth", "NUMBERED", "BARE", "MOST_PAIRS", "is_count", "is_pair", "are_pairs", "is_letter", "FIGURES", "MOST_FIGURES", "need", "need_text", "number_by", "pair_by", "read_letter", "show_letter", "_law_pen"]
def loose1 : List Str := ["_law_draw", "_law_kinds", "_law_number", "_law_pairs", "_law_some_letter", "_law_is_name", "_law_is_worth", "_law_number_in", "_law_refusal", "_law_sign_bent", "_law_word_bent", "_law_due"]
def loose : List Str := loose0 ++ loose1
abbrev R : PySem.W.OpenRow := PySem.W.OpenLaw.row PySem.Challenge.rw_crossedwishes_k79_texts_of_no_letter
abbrev hk : PySem.W.Hook := Cw.hookC 4 fa fn [("law", none)] exs
def ob (s : PySem.W.SharedT) : He.AlX := Cw.obsC 4 fa fn [("law", none)] exs (HandSHeadRun.getT s)
theorem ob_eq (s : PySem.W.SharedT) : ob s = hk.obs s.abs := Cw.obsC_eq (HandSHeadRun.getT_eq s)
theorem run (w : World) : HandSHeadRun.RunEq R (PySem.W.view R.prog [48]) hk ob 4000 loose w := by
  intro os
  kernel_rfl
theorem facts {P : Program} {w : World} {K : PySem.W.Frag} {h : Heap} {mg : Str → Option Value} {f : Addr} (X : K.In h) (G : h.Ns mainGlobals mg) (hfa : mg ("law" : Str) = some (.ref f)) (cx : He.SaysX fa fn [] [("law", none)] exs w h K) :
    ∃ fd : FuncData, (∀ (s : Shared) (v : Value), BindsTo s fd ⟨[v], []⟩ [("_law_script", v)]) ∧ ∀ base : Heap, K.In base → base.Ns mainGlobals mg → LamX.TabB base mg (He.cT K ("law", none)).1 (He.cT K ("law", none)).2 → GnOk P w K mg base 8 f fd ["_law_script"] (F_law (He.cT K ("law", none)).2) := by
  have c := cx.t.d
  have q_list := He.free_ok X G (c.fact 26 (f := .free "list") rfl)
  have q_str := He.free_ok X G (c.fact 27 (f := .free "str") rfl)
  have q_len := He.free_ok X G (c.fact 28 (f := .free "len") rfl)
  have q_abs := He.free_ok X G (c.fact 29 (f := .free "abs") rfl)
  have q_int := He.free_ok X G (c.fact 30 (f := .free "int") rfl)
  have q_range := He.free_ok X G (c.fact 31 (f := .free "range") rfl)
  have q_tuple := He.free_ok X G (c.fact 32 (f := .free "tuple") rfl)
  have q_max := He.free_ok X G (c.fact 33 (f := .free "max") rfl)
  have q_isinstance := He.free_ok X G (c.fact 34 (f := .free "isinstance") rfl)
  have q_ValueError := He.free_ok X G (c.fact 35 (f := .free "ValueError") rfl)
  have q_bool := He.free_ok X G (c.fact 36 (f := .free "bool") rfl)
  have q_min := He.free_ok X G (c.fact 37 (f := .free "min") rfl)
  have q_set := He.free_ok X G (c.fact 38 (f := .free "set") rfl)
  have k_MOST_FIGURES := He.int_ok X G (c.fact 39 (f := .int "MOST_FIGURES" 10) rfl)
  have k_FIGURES := He.str_ok X G (c.fact 40 (f := .str "FIGURES" "0123456789") rfl)
  have q_all := He.free_ok X G (c.fact 41 (f := .free "all") rfl)
  have k_LONGEST := He.int_ok X G (c.fact 42 (f := .int "LONGEST" 8) rfl)
  have k_LETTERS := He.str_ok X G (c.fact 43 (f := .str "LETTERS" "abcdefghijklmnopqrstuvwxyz") rfl)
  have k_GREATEST := He.int_ok X G (c.fact 44 (f := .int "GREATEST" 9999) rfl)
  have k_MOST_PAIRS := He.int_ok X G (c.fact 45 (f := .int "MOST_PAIRS" 6) rfl)
  have q_repr := He.free_ok X G (c.fact 46 (f := .free "repr") rfl)
  have m_WishError := He.glo_ok X G (c.fact 47 (f := .glo "WishError") rfl)
  have m_TooMany := He.glo_ok X G (c.fact 48 (f := .glo "TooMany") rfl)
  have m_NotOpen := He.glo_ok X G (c.fact 49 (f := .glo "NotOpen") rfl)
  have m_NotClosed := He.glo_ok X G (c.fact 50 (f := .glo "NotClosed") rfl)
  have m_NoTalk := He.glo_ok X G (c.fact 51 (f := .glo "NoTalk") rfl)
  have m_NoSaved := He.glo_ok X G (c.fact 52 (f := .glo "NoSaved") rfl)
  have m_NoLine := He.glo_ok X G (c.fact 53 (f := .glo "NoLine") rfl)
  have m_NoDeed := He.glo_ok X G (c.fact 54 (f := .glo "NoDeed") rfl)
  have m_NoText := He.glo_ok X G (c.fact 55 (f := .glo "NoText") rfl)
  have m_NUMBERED := He.glo_ok X G (c.fact 56 (f := .glo "NUMBERED") rfl)
  have m_BARE := He.glo_ok X G (c.fact 57 (f := .glo "BARE") rfl)
  obtain ⟨fd__law_pen, D__law_pen⟩ := c.def_ 0 (d := d__law_pen) rfl
  have m__law_pen := He.glo_ok X G (c.fact 0 (f := .glo "_law_pen") rfl)
  obtain ⟨fd_show_letter, D_show_letter⟩ := c.def_ 1 (d := d_show_letter) rfl
  have m_show_letter := He.glo_ok X G (c.fact 1 (f := .glo "show_letter") rfl)
  obtain ⟨fd__law_draw, D__law_draw⟩ := c.def_ 2 (d := d__law_draw) rfl
  have m__law_draw := He.glo_ok X G (c.fact 2 (f := .glo "_law_draw") rfl)
  obtain ⟨fd__law_number, D__law_number⟩ := c.def_ 3 (d := d__law_number) rfl
  have m__law_number := He.glo_ok X G (c.fact 3 (f := .glo "_law_number") rfl)
  obtain ⟨fd__law_kinds, D__law_kinds⟩ := c.def_ 4 (d := d__law_kinds) rfl
  have m__law_kinds := He.glo_ok X G (c.fact 4 (f := .glo "_law_kinds") rfl)
  obtain ⟨fd__law_pairs, D__law_pairs⟩ := c.def_ 5 (d := d__law_pairs) rfl
  have m__law_pairs := He.glo_ok X G (c.fact 5 (f := .glo "_law_pairs") rfl)
  obtain ⟨fd__law_some_letter, D__law_some_letter⟩ := c.def_ 6 (d := d__law_some_letter) rfl
  have m__law_some_letter := He.glo_ok X G (c.fact 6 (f := .glo "_law_some_letter") rfl)
  obtain ⟨fd__law_refusal, D__law_refusal⟩ := c.def_ 7 (d := d__law_refusal) rfl
  have m__law_refusal := He.glo_ok X G (c.fact 7 (f := .glo "_law_refusal") rfl)
  obtain ⟨fd__law_number_in, D__law_number_in⟩ := c.def_ 8 (d := d__law_number_in) rfl
  have m__law_number_in := He.glo_ok X G (c.fact 8 (f := .glo "_law_number_in") rfl)
  obtain ⟨fd__law_is_name, D__law_is_name⟩ := c.def_ 9 (d := d__law_is_name) rfl
  have m__law_is_name := He.glo_ok X G (c.fact 9 (f := .glo "_law_is_name") rfl)
  obtain ⟨fd__law_is_worth, D__law_is_worth⟩ := c.def_ 10 (d := d__law_is_worth) rfl
  have m__law_is_worth := He.glo_ok X G (c.fact 10 (f := .glo "_law_is_worth") rfl)
  obtain ⟨fd__law_due, D__law_due⟩ := c.def_ 11 (d := d__law_due) rfl
  have m__law_due := He.glo_ok X G (c.fact 11 (f := .glo "_law_due") rfl)
  obtain ⟨fd__law_sign_bent, D__law_sign_bent⟩ := c.def_ 12 (d := d__law_sign_bent) rfl
  have m__law_sign_bent := He.glo_ok X G (c.fact 12 (f := .glo "_law_sign_bent") rfl)
  obtain ⟨fd__law_word_bent, D__law_word_bent⟩ := c.def_ 13 (d := d__law_word_bent) rfl
  have m__law_word_bent := He.glo_ok X G (c.fact 13 (f := .glo "_law_word_bent") rfl)
  obtain ⟨fd_need_text, D_need_text⟩ := c.def_ 14 (d := d_need_text) rfl
  have m_need_text := He.glo_ok X G (c.fact 14 (f := .glo "need_text") rfl)
  obtain ⟨fd_need, D_need⟩ := c.def_ 15 (d := d_need) rfl
  have m_need := He.glo_ok X G (c.fact 15 (f := .glo "need") rfl)
  obtain ⟨fd_number_by, D_number_by⟩ := c.def_ 16 (d := d_number_by) rfl
  have m_number_by := He.glo_ok X G (c.fact 16 (f := .glo "number_by") rfl)
  obtain ⟨fd_is_count, D_is_count⟩ := c.def_ 17 (d := d_is_count) rfl
  have m_is_count := He.glo_ok X G (c.fact 17 (f := .glo "is_count") rfl)
  obtain ⟨fd_is_name, D_is_name⟩ := c.def_ 18 (d := d_is_name) rfl
  have m_is_name := He.glo_ok X G (c.fact 18 (f := .glo "is_name") rfl)
  obtain ⟨fd_is_worth, D_is_worth⟩ := c.def_ 19 (d := d_is_worth) rfl
  have m_is_worth := He.glo_ok X G (c.fact 19 (f := .glo "is_worth") rfl)
  obtain ⟨fd_is_pair, D_is_pair⟩ := c.def_ 20 (d := d_is_pair) rfl
  have m_is_pair := He.glo_ok X G (c.fact 20 (f := .glo "is_pair") rfl)
  obtain ⟨fd_are_pairs, D_are_pairs⟩ := c.def_ 21 (d := d_are_pairs) rfl
  have m_are_pairs := He.glo_ok X G (c.fact 21 (f := .glo "are_pairs") rfl)
  obtain ⟨fd_is_letter, D_is_letter⟩ := c.def_ 22 (d := d_is_letter) rfl
  have m_is_letter := He.glo_ok X G (c.fact 22 (f := .glo "is_letter") rfl)
  obtain ⟨fd_pair_by, D_pair_by⟩ := c.def_ 23 (d := d_pair_by) rfl
  have m_pair_by := He.glo_ok X G (c.fact 23 (f := .glo "pair_by") rfl)
  obtain ⟨fd_read_letter, D_read_letter⟩ := c.def_ 24 (d := d_read_letter) rfl
  have m_read_letter := He.glo_ok X G (c.fact 24 (f := .glo "read_letter") rfl)
  obtain ⟨fd_law, D_law⟩ := c.def_ 25 (d := d_law) rfl
  have m_law := He.glo_ok X G (c.fact 25 (f := .glo "law") rfl)
  obtain ⟨fi_NoText, Di_NoText⟩ := c.def_ 26 (d := d_NoText_init) rfl
  obtain ⟨x0, y0⟩ := He.ba cx.more
  obtain ⟨x1, y1⟩ := He.ba y0
  obtain ⟨x2, y2⟩ := He.ba y1
  obtain ⟨x3, y3⟩ := He.ba y2
  obtain ⟨x4, y4⟩ := He.ba y3
  obtain ⟨x5, y5⟩ := He.ba y4
  have x6 := y5
  have t_NUMBERED := And.intro m_NUMBERED (gtupB_ok x0)
  have t_BARE := And.intro m_BARE (gtupB_ok x1)
  have ow_NoText := x2
  have in_NoText := iniB_ok x3
  have x_WishError := exmB_ok x4
  have f_line := xfsB_ok x5
  have M_isx := isxB_ok x6
  have e := hfa.symm.trans m_law
  cases e
  have hcode : fd_law.code = .ref (He.cT K ("law", none)).1 := by
    obtain ⟨oc, od, dV, kV, doc, pm, an, cdv, ct, osl, e, lk, hcd, _, _⟩ := D_law.ex
    obtain ⟨cc, ec⟩ := He.codeIn_ref hcd
    have e2 : fd_law.code = .ref cc := by rw [e]; exact ec
    rw [e2]
    exact congrArg Value.ref (He.codeOf_eq (p := ("law", none)) lk e2).symm
  refine ⟨fd_law, fun s v => FunD.bindsA (ps := ["_law_script"]) D_law (fun _ _ _ _ _ _ us hl => match us, hl with | [_], _ => rfl) s [v] rfl, fun base _ _ TB => ?_⟩
  have Z_NoText : FnScope ["self", "line"] ["self", "line"] (defScope i_NoText) := ⟨rfl, rfl, rfl, by decide +kernel, rfl, by decide +kernel, by decide +kernel⟩
  have O_NoText : OwnX P w K mg base "NoText" "line" := own_of ow_NoText m_NoText (FunD.bindsN (ps := ["self", "line"]) Di_NoText (fun _ _ _ _ _ _ us hl => match us, hl with | [_, _], _ => rfl))
    (initF Di_NoText Z_NoText (fun cdv A outer s H E => ps_expr (pe_ownInit (CB := He.ga K "WishError") (mc := .type "type") rfl m_WishError in_NoText.1 in_NoText.2.1 in_NoText.2.2 (pa_cons (pe_var (i := 0) rfl (Or.inl rfl)) (pa_cons pe_str pa_nil)))) (fun cdv A outer s H E => ps_ost (pe_var (i := 0) rfl (Or.inl rfl)) (pe_var (i := 1) rfl (Or.inl rfl))))
  have b__law_refusal := FunD.bindsN (ps := ["_law_ask"]) D__law_refusal (fun _ _ _ _ _ _ us hl => match us, hl with | [_], _ => rfl)
  have G__law_pen := g__law_pen (P := P) (w := w) (mg := mg) (base := base) D__law_pen q_list
  have c__law_pen := cal_of D__law_pen m__law_pen G__law_pen (fun _ _ _ _ _ _ us hl => match us, hl with | [_], _ => rfl)
  have G_show_letter := g_show_letter (P := P) (w := w) (mg := mg) (base := base) D_show_letter q_str
  have c_show_letter := cal_of D_show_letter m_show_letter G_show_letter (fun _ _ _ _ _ _ us hl => match us, hl with | [_], _ => rfl)
  have G__law_draw := g__law_draw (P := P) (w := w) (mg := mg) (base := base) D__law_draw q_len q_abs q_int
  have c__law_draw := cal_of D__law_draw m__law_draw G__law_draw (fun _ _ _ _ _ _ us hl => match us, hl with | [_, _], _ => rfl)
  have G__law_number := g__law_number (P := P) (w := w) (mg := mg) (base := base) D__law_number c__law_draw
  have c__law_number := cal_of D__law_number m__law_number G__law_number (fun _ _ _ _ _ _ us hl => match us, hl with | [_], _ => rfl)
  have G__law_kinds := g__law_kinds (P := P) (w := w) (mg := mg) (base := base) D__law_kinds q_range q_len c__law_draw
  have c__law_kinds := cal_of D__law_kinds m__law_kinds G__law_kinds (fun _ _ _ _ _ _ us hl => match us, hl with | [_, _], _ => rfl)
  have G__law_pairs := g__law_pairs (P := P) (w := w) (mg := mg) (base := base) D__law_pairs c__law_draw c__law_kinds q_tuple
  have c__law_pairs := cal_of D__law_pairs m__law_pairs G__law_pairs (fun _ _ _ _ _ _ us hl => match us, hl with | [_, _], _ => rfl)
  have G__law_some_letter := g__law_some_letter (P := P) (w := w) (mg := mg) (base := base) D__law_some_letter c__law_draw c__law_number q_max c__law_pairs
  have c__law_some_letter := cal_of D__law_some_letter m__law_some_letter G__law_some_letter (fun _ _ _ _ _ _ us hl => match us, hl with | [_], _ => rfl)
  have G__law_number_in := g__law_number_in (P := P) (w := w) (mg := mg) (base := base) D__law_number_in q_len q_int
  have c__law_number_in := cal_of D__law_number_in m__law_number_in G__law_number_in (fun _ _ _ _ _ _ us hl => match us, hl with | [_], _ => rfl)
  have G__law_is_name := g__law_is_name (P := P) (w := w) (mg := mg) (base := base) D__law_is_name q_str q_isinstance q_len
  have c__law_is_name := cal_of D__law_is_name m__law_is_name G__law_is_name (fun _ _ _ _ _ _ us hl => match us, hl with | [_], _ => rfl)
  have G__law_is_worth := g__law_is_worth (P := P) (w := w) (mg := mg) (base := base) D__law_is_worth q_int q_isinstance q_bool
  have c__law_is_worth := cal_of D__law_is_worth m__law_is_worth G__law_is_worth (fun _ _ _ _ _ _ us hl => match us, hl with | [_], _ => rfl)
  have G__law_due := g__law_due (P := P) (w := w) (mg := mg) (base := base) D__law_due q_len c__law_is_name c__law_number_in c__law_is_worth q_min q_set q_tuple
  have c__law_due := cal_of D__law_due m__law_due G__law_due (fun _ _ _ _ _ _ us hl => match us, hl with | [_], _ => rfl)
  have G__law_sign_bent := g__law_sign_bent (P := P) (w := w) (mg := mg) (base := base) D__law_sign_bent c__law_draw q_int q_len
  have c__law_sign_bent := cal_of D__law_sign_bent m__law_sign_bent G__law_sign_bent (fun _ _ _ _ _ _ us hl => match us, hl with | [_, _, _], _ => rfl)
  have G__law_word_bent := g__law_word_bent (P := P) (w := w) (mg := mg) (base := base) D__law_word_bent q_len c__law_draw q_list
  have c__law_word_bent := cal_of D__law_word_bent m__law_word_bent G__law_word_bent (fun _ _ _ _ _ _ us hl => match us, hl with | [_, _, _], _ => rfl)
  have G_need_text := g_need_text (P := P) (w := w) (mg := mg) (base := base) D_need_text q_str q_isinstance O_NoText
  have c_need_text := cal_of D_need_text m_need_text G_need_text (fun _ _ _ _ _ _ us hl => match us, hl with | [_], _ => rfl)
  have G_need := g_need (P := P) (w := w) (mg := mg) (base := base) D_need O_NoText
  have c_needd := cal_kw (ps := ["is_right", "line"]) D_need m_need G_need 1 (List.cons_ne_nil _ _) rfl (fun _ _ _ _ _ _ us ks hl hk => match us, ks, hl, hk with | [_], [_], _, _ => ⟨_, _, _, _, _, _, rfl, rfl, rfl⟩) (fun _ => Dats.cons (d := .int 0) rfl Dats.nil)
  have G_number_by := g_number_by (P := P) (w := w) (mg := mg) (base := base) D_number_by q_len k_MOST_FIGURES k_FIGURES q_all q_int
  have c_number_by := cal_of D_number_by m_number_by G_number_by (fun _ _ _ _ _ _ us hl => match us, hl with | [_], _ => rfl)
  have G_is_count := g_is_count (P := P) (w := w) (mg := mg) (base := base) D_is_count q_int q_isinstance q_bool
  have c_is_count := cal_of D_is_count m_is_count G_is_count (fun _ _ _ _ _ _ us hl => match us, hl with | [_, _], _ => rfl)
  have G_is_name := g_is_name (P := P) (w := w) (mg := mg) (base := base) D_is_name q_str q_isinstance q_len k_LONGEST k_LETTERS q_all
  have c_is_name := cal_of D_is_name m_is_name G_is_name (fun _ _ _ _ _ _ us hl => match us, hl with | [_], _ => rfl)
  have G_is_worth := g_is_worth (P := P) (w := w) (mg := mg) (base := base) D_is_worth q_int q_isinstance q_bool k_GREATEST
  have c_is_worth := cal_of D_is_worth m_is_worth G_is_worth (fun _ _ _ _ _ _ us hl => match us, hl with | [_], _ => rfl)
  have G_is_pair := g_is_pair (P := P) (w := w) (mg := mg) (base := base) D_is_pair q_tuple q_isinstance q_len c_is_name c_is_worth
  have c_is_pair := cal_of D_is_pair m_is_pair G_is_pair (fun _ _ _ _ _ _ us hl => match us, hl with | [_], _ => rfl)
  have G_are_pairs := g_are_pairs (P := P) (w := w) (mg := mg) (base := base) D_are_pairs q_tuple q_isinstance q_len k_MOST_PAIRS c_is_pair q_all
  have c_are_pairs := cal_of D_are_pairs m_are_pairs G_are_pairs (fun _ _ _ _ _ _ us hl => match us, hl with | [_], _ => rfl)
  have G_is_letter := g_is_letter (P := P) (w := w) (mg := mg) (base := base) D_is_letter q_tuple q_isinstance q_len c_is_name q_str c_is_count t_NUMBERED c_are_pairs t_BARE
  have c_is_letter := cal_of D_is_letter m_is_letter G_is_letter (fun _ _ _ _ _ _ us hl => match us, hl with | [_], _ => rfl)
  have G_pair_by := g_pair_by (P := P) (w := w) (mg := mg) (base := base) D_pair_by q_len c_number_by
  have c_pair_by := cal_of D_pair_by m_pair_by G_pair_by (fun _ _ _ _ _ _ us hl => match us, hl with | [_], _ => rfl)
  have G_read_letter := g_read_letter (P := P) (w := w) (mg := mg) (base := base) D_read_letter c_need_text q_len c_needd c_number_by c_pair_by q_tuple c_is_letter
  have c_read_letter := cal_of D_read_letter m_read_letter G_read_letter (fun _ _ _ _ _ _ us hl => match us, hl with | [_], _ => rfl)
  have G_law := g_law (P := P) (w := w) (mg := mg) (base := base) D_law c__law_pen q_range c__law_some_letter c_show_letter c__law_word_bent c__law_sign_bent c__law_draw c_read_letter D__law_refusal b__law_refusal m__law_refusal x_WishError m_WishError M_isx m_TooMany m_NotOpen m_NotClosed m_NoTalk m_NoSaved m_NoLine m_NoDeed q_isinstance m_NoText q_ValueError f_line TB q_repr c__law_due hcode
  exact G_law
end Hd
open PySem PySem.W PySem.Calls PyProof.Rows
theorem PySem.Challenge.cw_crossedwishes_k79_texts_of_no_letter_holds : PySem.Challenge.rw_crossedwishes_k79_texts_of_no_letter.Holds := by
  w_on; o_law
  refine HandSHeadRun.head_any (r := OpenLaw.row PySem.Challenge.rw_crossedwishes_k79_texts_of_no_letter) (q := view (OpenLaw.row PySem.Challenge.rw_crossedwishes_k79_texts_of_no_letter).prog [48]) (H := Hd.hk) (ob := Hd.ob) (M := 4000) (loose := Hd.loose) (d := HandSHeadRun.topDef (OpenLaw.row PySem.Challenge.rw_crossedwishes_k79_texts_of_no_letter).prog 48) (kwd := []) Hd.ob_eq
    (by kernel_rfl) (fun s => by kernel_rfl) Hd.run (by kernel_rfl) (by kernel_rfl) (by kernel_rfl) (by rfl) (by first | assumption | decide +kernel) (by decide +kernel) ⟨rfl, rfl, rfl, rfl, rfl, by decide +kernel⟩ ?hw ?hc
  case hw => w_witness2
  case hc =>
    refine Cw.walk_gT (l := PySem.Challenge.rw_crossedwishes_k79_texts_of_no_letter) (n := 63) (k := 8) (x := "_law_script") (q := "law.<locals>.<lambda>") (F := Cw.F_law) rfl (by decide) (by kernel_rfl) ⟨rfl, by decide, by decide⟩ ?F Cw.law_true
    intro w mg fa h Y G hmg0
    obtain ⟨K, KX, c⟩ := Y
    have hmg : mg ("law" : PySem.Str) = some (.ref fa) := by
      have e : (HandSHeadRun.topDef (OpenLaw.row PySem.Challenge.rw_crossedwishes_k79_texts_of_no_letter).prog 48).name = ("law" : PySem.Str) := by kernel_rfl
      rw [← e]
      exact hmg0
    obtain ⟨fd, hb, hF⟩ := Hd.facts (P := (PySem.Challenge.rw_crossedwishes_k79_texts_of_no_letter).prog) (w := w) KX G hmg c
    have hm : (("law", none) : He.Defn) ∈ ([("law", none)] : List He.Defn) := List.mem_singleton.mpr rfl
    exact ⟨K, fd, _, _, KX, c.empty _ hm, c.out _ hm, PySem.W.codeHd_of_K KX (c.hd _ hm), hb, hF⟩

