import PyProof.Rows.All
import Wide.All
import OpenK.AllK
import Wide.FinOn
import HandS.ForMost
import HandS.ForExc
import HandS.Evl
import HandS.Walk
import HandS.IsInst
import HandS.TupAny
import HandS.Deep
import HandS.Flow
import HandS.Wide
import HandS.Text
import HandS.CallSlots
import HandS.ExcInit
import HandS.ExcField
import HandS.ExcIs
import KE.KExcIs
import HandS.FStr
import HandS.Iter
import HandS.Zip0
import PyProof.EnumMake
import PyProof.Draws
import HandS.Style
import PySem.Challenge.RW_laidforall_k21_first_bad_edge
set_option Elab.async false
set_option linter.all false
set_option maxRecDepth 100000
section S_DxA
set_option Elab.async false
set_option linter.all false
set_option maxRecDepth 100000
/-! Dx, part A: Python data as a Lean type, what value at which heap stands for it, results, environments. -/
namespace Dx
open PySem L2

/-- data: what a value stands for, whatever its address -/
inductive D where
  | non
  | bl (b : Bool)
  | int (i : Int)
  | str (s : Str)
  | lst (xs : List D)
  | fz (xs : List D)
  | tup (xs : List D)
  | dk (ks : List Key) (vs : List D)
  | dt (ks : List (List Key)) (vs : List D)
  | obj (c : Str) (ns : List Str) (vs : List D)
  | own (k : Nat)
  | st (k : Nat) (rows : List (List D))

/-- where the classes of the text stand -/
abbrev CM := Str → Option Addr

/-- H' knows all that H knows -/
def Ex (H H' : Hp) : Prop := ∀ a o, H a = some o → H' a = some o
theorem Ex.refl {H : Hp} : Ex H H := fun _ _ h => h
theorem Ex.trans {H H1 H2 : Hp} (a : Ex H H1) (b : Ex H1 H2) : Ex H H2 := fun x o h => b x o (a x o h)
theorem Ex.nn {H H' : Hp} (e : Ex H H') {p : Addr} (h : H' p = none) : H p = none := by
  cases h1 : H p with
  | none => rfl
  | some o => rw [e p o h1] at h; cases h
theorem Ex.new {H : Hp} {p : Addr} {o : HO} (h : H p = none) : Ex H (upd H p o) := fun a u e => by
  rw [upd_ne (ne_of_none e h)]; exact e
theorem Ex.put {H H' : Hp} {p : Addr} {o : HO} (e : Ex H H') (h : H p = none) : Ex H (upd H' p o) := fun a u ha => by
  rw [upd_ne (ne_of_none ha h)]; exact e a u ha
theorem Ex.both {S H : Hp} {p : Addr} {o : HO} (e : Ex S H) : Ex (upd S p o) (upd H p o) := fun a u ha => by
  by_cases h : a = p
  · subst h; rw [upd_same] at ha ⊢; exact ha
  · rw [upd_ne h] at ha ⊢; exact e a u ha
theorem Ex.rd {H H' : Hp} {a : Addr} {u : HO} (e : Ex H H') (h : Rd H a u) : Rd H' a u := by
  rcases h with h | ⟨o, h⟩
  · exact .inl (e a _ h)
  · exact .inr ⟨o, e a _ h⟩
theorem Ex.l {K : PySem.W.Frag} {H H' : Hp} {a : Addr} {xs : List V} (e : Ex H H') (h : SqL K H a xs) : SqL K H' a xs := by
  rcases h with h | h
  · exact .inl (e.rd h)
  · exact .inr h
theorem Ex.t {K : PySem.W.Frag} {H H' : Hp} {a : Addr} {xs : List V} (e : Ex H H') (h : SqT K H a xs) : SqT K H' a xs := by
  rcases h with h | h
  · exact .inl (e.rd h)
  · exact .inr h

mutual
/-- the value v, at the heap S, stands for the data -/
inductive Rp (K : PySem.W.Frag) (cm : CM) (S : Hp) : V → D → Prop
  | non : Rp K cm S .non .non
  | bl (b : Bool) : Rp K cm S (.bl b) (.bl b)
  | int (i : Int) : Rp K cm S (.int i) (.int i)
  | str (x : Str) : Rp K cm S (.str x) (.str x)
  | lst {a : Addr} {xs : List V} {ds : List D} : S a = some (.lst xs) → RpA K cm S xs ds → Rp K cm S (.ref a) (.lst ds)
  | fz {a : Addr} {xs : List V} {ds : List D} : SqL K S a xs → RpA K cm S xs ds → Rp K cm S (.ref a) (.fz ds)
  | tup {a : Addr} {xs : List V} {ds : List D} : SqT K S a xs → RpA K cm S xs ds → Rp K cm S (.ref a) (.tup ds)
  | dk {a : Addr} {kvs : List (Key × V)} {ks : List Key} {ds : List D} : S a = some (.dK kvs) → ks = kvs.map (·.1) → RpA K cm S (kvs.map (·.2)) ds → Rp K cm S (.ref a) (.dk ks ds)
  | dt {a : Addr} {kvs : List (List Key × V)} {ks : List (List Key)} {ds : List D} : S a = some (.dT kvs) → ks = kvs.map (·.1) → RpA K cm S (kvs.map (·.2)) ds → Rp K cm S (.ref a) (.dt ks ds)
  | obj {a C dx : Addr} {c : Str} {fs : List (Str × V)} {ns : List Str} {ds : List D} : cm c = some C → S a = some (.ins C dx fs) → ns = fs.map (·.1) → RpA K cm S (fs.map (·.2)) ds → Rp K cm S (.ref a) (.obj c ns ds)
inductive RpA (K : PySem.W.Frag) (cm : CM) (S : Hp) : List V → List D → Prop
  | nil : RpA K cm S [] []
  | cons {v : V} {vs : List V} {d : D} {ds : List D} : Rp K cm S v d → RpA K cm S vs ds → RpA K cm S (v :: vs) (d :: ds)
end

section
variable {K : PySem.W.Frag} {cm : CM} {S S' : Hp}
mutual
theorem Rp.mono (e : Ex S S') : ∀ {v : V} {d : D}, Rp K cm S v d → Rp K cm S' v d
  | _, .non, h => by cases h; exact .non
  | _, .bl _, h => by cases h; exact .bl _
  | _, .int _, h => by cases h; exact .int _
  | _, .str _, h => by cases h; exact .str _
  | _, .lst ds, h => by cases h with | lst q r => exact .lst (e _ _ q) (RpA.mono e r)
  | _, .fz ds, h => by cases h with | fz q r => exact .fz (e.l q) (RpA.mono e r)
  | _, .tup ds, h => by cases h with | tup q r => exact .tup (e.t q) (RpA.mono e r)
  | _, .dk _ ds, h => by cases h with | dk q k r => exact .dk (e _ _ q) k (RpA.mono e r)
  | _, .dt _ ds, h => by cases h with | dt q k r => exact .dt (e _ _ q) k (RpA.mono e r)
  | _, .obj _ _ ds, h => by cases h with | obj c q k r => exact .obj c (e _ _ q) k (RpA.mono e r)
theorem RpA.mono (e : Ex S S') : ∀ {vs : List V} {ds : List D}, RpA K cm S vs ds → RpA K cm S' vs ds
  | _, [], h => by cases h; exact .nil
  | _, d :: ds, h => by cases h with | cons a r => exact .cons (Rp.mono e a) (RpA.mono e r)
end
theorem RpA.length : ∀ {vs : List V} {ds : List D}, RpA K cm S vs ds → vs.length = ds.length
  | _, _, .nil => rfl
  | _, _, .cons _ r => by simp [RpA.length r]
theorem RpA.get : ∀ {vs : List V} {ds : List D} {i : Nat} {d : D}, RpA K cm S vs ds → ds[i]? = some d → ∃ v, vs[i]? = some v ∧ Rp K cm S v d
  | _, _, _, _, .nil, e => by simp at e
  | _, _, 0, _, .cons h _, e => by simp at e; subst e; exact ⟨_, by simp, h⟩
  | _, _, i + 1, d, .cons _ r, e => by
    obtain ⟨v, h1, h2⟩ := RpA.get (i := i) (d := d) r (by simpa using e)
    exact ⟨v, by simpa using h1, h2⟩
theorem RpA.getV : ∀ {vs : List V} {ds : List D} {i : Nat} {v : V}, RpA K cm S vs ds → vs[i]? = some v → ∃ d, ds[i]? = some d ∧ Rp K cm S v d
  | _, _, _, _, .nil, e => by simp at e
  | _, _, 0, _, .cons h _, e => by simp at e; subst e; exact ⟨_, by simp, h⟩
  | _, _, i + 1, v, .cons _ r, e => by
    obtain ⟨d, h1, h2⟩ := RpA.getV (i := i) (v := v) r (by simpa using e)
    exact ⟨d, by simpa using h1, h2⟩
theorem RpA.app : ∀ {vs us : List V} {ds es : List D}, RpA K cm S vs ds → RpA K cm S us es → RpA K cm S (vs ++ us) (ds ++ es)
  | _, _, _, _, .nil, s => s
  | _, _, _, _, .cons h r, s => .cons h (RpA.app r s)
theorem RpA.one {v : V} {d : D} (h : Rp K cm S v d) : RpA K cm S [v] [d] := .cons h .nil
theorem RpA.take : ∀ {vs : List V} {ds : List D} (n : Nat), RpA K cm S vs ds → RpA K cm S (vs.take n) (ds.take n)
  | _, _, 0, _ => .nil
  | _, _, _ + 1, .nil => .nil
  | _, _, n + 1, .cons h r => .cons h (RpA.take n r)
theorem RpA.drop : ∀ {vs : List V} {ds : List D} (n : Nat), RpA K cm S vs ds → RpA K cm S (vs.drop n) (ds.drop n)
  | _, _, 0, r => r
  | _, _, _ + 1, .nil => .nil
  | _, _, n + 1, .cons _ r => RpA.drop n r
theorem RpA.set {v : V} {d : D} (h : Rp K cm S v d) : ∀ {vs : List V} {ds : List D} (i : Nat), RpA K cm S vs ds → RpA K cm S (vs.set i v) (ds.set i d)
  | _, _, _, .nil => .nil
  | _, _, 0, .cons _ r => .cons h r
  | _, _, i + 1, .cons q r => .cons q (RpA.set h i r)
theorem RpA.reverse : ∀ {vs : List V} {ds : List D}, RpA K cm S vs ds → RpA K cm S vs.reverse ds.reverse
  | _, _, .nil => .nil
  | _, _, .cons h r => by rw [List.reverse_cons, List.reverse_cons]; exact (RpA.reverse r).app (.one h)
end

/-- the content of a mutable object stands for the data, its parts at S -/
inductive RpO (K : PySem.W.Frag) (cm : CM) (S : Hp) : HO → D → Prop
  | lst {xs : List V} {ds : List D} : RpA K cm S xs ds → RpO K cm S (.lst xs) (.lst ds)
  | dk {kvs : List (Key × V)} {ks : List Key} {ds : List D} : ks = kvs.map (·.1) → RpA K cm S (kvs.map (·.2)) ds → RpO K cm S (.dK kvs) (.dk ks ds)
  | dt {kvs : List (List Key × V)} {ks : List (List Key)} {ds : List D} : ks = kvs.map (·.1) → RpA K cm S (kvs.map (·.2)) ds → RpO K cm S (.dT kvs) (.dt ks ds)
  | obj {C dx : Addr} {c : Str} {fs : List (Str × V)} {ns : List Str} {ds : List D} : cm c = some C → ns = fs.map (·.1) → RpA K cm S (fs.map (·.2)) ds → RpO K cm S (.ins C dx fs) (.obj c ns ds)
theorem RpO.mono {K : PySem.W.Frag} {cm : CM} {S S' : Hp} (e : Ex S S') {o : HO} {d : D} (h : RpO K cm S o d) : RpO K cm S' o d := by
  cases h with
  | lst r => exact .lst (r.mono e)
  | dk k r => exact .dk k (r.mono e)
  | dt k r => exact .dt k (r.mono e)
  | obj c k r => exact .obj c k (r.mono e)
theorem RpO.pub {K : PySem.W.Frag} {cm : CM} {S : Hp} {o : HO} {d : D} {p : Addr} (h : RpO K cm S o d) (hp : S p = o) : Rp K cm S (.ref p) d := by
  cases h with
  | lst r => exact .lst hp r
  | dk k r => exact .dk hp k r
  | dt k r => exact .dt hp k r
  | obj c k r => exact .obj c hp k r

/-- S is the part of H that stays; from (S, H) to (S', H') nothing known has changed -/
structure Fwd (S H S' H' : Hp) : Prop where
  s : Ex S S'
  h : Ex H H'
  sub : Ex S' H'
  new : ∀ a o, S' a = some o → S a = none → H a = none
theorem Fwd.refl {S H : Hp} (e : Ex S H) : Fwd S H S H := ⟨Ex.refl, Ex.refl, e, fun a o h n => by rw [n] at h; cases h⟩
theorem Fwd.trans {S H S1 H1 S2 H2 : Hp} (a : Fwd S H S1 H1) (b : Fwd S1 H1 S2 H2) : Fwd S H S2 H2 :=
  ⟨a.s.trans b.s, a.h.trans b.h, b.sub, fun p o h n => by
    cases e : S1 p with
    | some u => exact a.new p u e n
    | none => exact a.h.nn (b.new p o h e)⟩
theorem Fwd.both {S H : Hp} {p : Addr} {o : HO} (e : Ex S H) (n : H p = none) : Fwd S H (upd S p o) (upd H p o) :=
  ⟨Ex.new (e.nn n), Ex.new n, e.both, fun a u h m => by
    by_cases ha : a = p
    · subst ha; exact n
    · rw [upd_ne ha, m] at h; cases h⟩
theorem Fwd.heap {S H : Hp} {p : Addr} {o : HO} (e : Ex S H) (n : H p = none) : Fwd S H S (upd H p o) :=
  ⟨Ex.refl, Ex.new n, e.put (e.nn n), fun a u h m => by rw [m] at h; cases h⟩
/-- a new object known to H' alone becomes one that stays -/
theorem Fwd.pub {S H S' H' : Hp} {p : Addr} {o : HO} (f : Fwd S H S' H') (n : H p = none) (ns : S' p = none) (h : H' p = some o) : Fwd S H (upd S' p o) H' :=
  ⟨f.s.trans (Ex.new ns), f.h, fun a u ha => by
    by_cases hh : a = p
    · subst hh; rw [upd_same] at ha; rw [h]; exact ha
    · rw [upd_ne hh] at ha; exact f.sub a u ha, fun a u ha m => by
    by_cases hh : a = p
    · subst hh; exact n
    · rw [upd_ne hh] at ha; exact f.new a u ha m⟩

/-! ### results -/
inductive Res (α : Type) where
  | ok (a : α)
  | err (c : Str) (ns : List Str) (vs : List D)
  | bad
@[inline] def Res.bind {α β : Type} : Res α → (α → Res β) → Res β
  | .ok a, k => k a
  | .err c ns vs, _ => .err c ns vs
  | .bad, _ => .bad
instance : Monad Res where
  pure := Res.ok
  bind := Res.bind
abbrev Rho := List (Option D)
/-- the end of a statement -/
inductive SR where
  | nx (r : Rho)
  | rt (d : D)
  | bk (r : Rho)
  | ct (r : Rho)
  | er (r : Rho) (c : Str) (ns : List Str) (vs : List D)
  | bad

/-! ### kinds of slots: v a value that stays, o an own mutable object, b a list that a caller may own, x a caught exception,
s the own lists that stand in each other (all of them, with the one that the slot holds), w one of these lists -/
inductive Ow where
  | v | o | b | s | w
  | x (a C dd : Addr)
structure Cf where
  K : PySem.W.Frag
  cm : CM
  W : WX
  ge : Option (List Ow)
  rm : Bool

/-- a value, or a mutable object read at H whose parts stay -/
def RpB (K : PySem.W.Frag) (cm : CM) (S H : Hp) (v : V) (d : D) : Prop :=
  Rp K cm S v d ∨ ∃ p ho, v = .ref p ∧ H p = some ho ∧ RpO K cm S ho d
section
variable {K : PySem.W.Frag} {cm : CM} {S S' H H' : Hp} {v : V} {d : D}
theorem RpB.mono (h : RpB K cm S H v d) (e : Ex S S') (e' : Ex H H') : RpB K cm S' H' v d := by
  rcases h with h | ⟨p, ho, h1, h2, h3⟩
  · exact .inl (h.mono e)
  · exact .inr ⟨p, ho, h1, e' _ _ h2, h3.mono e⟩
theorem RpB.list {ds : List D} (h : RpB K cm S H v (.lst ds)) (e : Ex S H) : ∃ p xs, v = .ref p ∧ H p = some (.lst xs) ∧ RpA K cm S xs ds := by
  rcases h with h | ⟨p, ho, h1, h2, h3⟩
  · cases h with | lst q r => exact ⟨_, _, rfl, e _ _ q, r⟩
  · cases h3 with | lst r => exact ⟨p, _, h1, h2, r⟩
theorem RpB.int {i : Int} (h : RpB K cm S H v (.int i)) : v = .int i := by
  rcases h with h | ⟨p, ho, h1, h2, h3⟩
  · cases h; rfl
  · cases h3
theorem RpB.bl {b : Bool} (h : RpB K cm S H v (.bl b)) : v = .bl b := by
  rcases h with h | ⟨p, ho, h1, h2, h3⟩
  · cases h; rfl
  · cases h3
theorem RpB.non (h : RpB K cm S H v .non) : v = .non := by
  rcases h with h | ⟨p, ho, h1, h2, h3⟩
  · cases h; rfl
  · cases h3
theorem RpB.str {z : Str} (h : RpB K cm S H v (.str z)) : v = .str z := by
  rcases h with h | ⟨p, ho, h1, h2, h3⟩
  · cases h; rfl
  · cases h3
theorem RpB.tup {ds : List D} (h : RpB K cm S H v (.tup ds)) (e : Ex S H) : ∃ p xs, v = .ref p ∧ SqT K H p xs ∧ RpA K cm S xs ds ∧ SqT K S p xs := by
  rcases h with h | ⟨p, ho, h1, h2, h3⟩
  · cases h with | tup q r => exact ⟨_, _, rfl, e.t q, r, q⟩
  · cases h3
theorem RpB.fz {ds : List D} (h : RpB K cm S H v (.fz ds)) (e : Ex S H) : ∃ p xs, v = .ref p ∧ SqL K H p xs ∧ RpA K cm S xs ds := by
  rcases h with h | ⟨p, ho, h1, h2, h3⟩
  · cases h with | fz q r => exact ⟨_, _, rfl, e.l q, r⟩
  · cases h3
theorem RpB.dk {ks : List Key} {ds : List D} (h : RpB K cm S H v (.dk ks ds)) (e : Ex S H) : ∃ p kvs, v = .ref p ∧ H p = some (.dK kvs) ∧ ks = kvs.map (·.1) ∧ RpA K cm S (kvs.map (·.2)) ds := by
  rcases h with h | ⟨p, ho, h1, h2, h3⟩
  · cases h with | dk q k r => exact ⟨_, _, rfl, e _ _ q, k, r⟩
  · cases h3 with | dk k r => exact ⟨p, _, h1, h2, k, r⟩
theorem RpB.dt {ks : List (List Key)} {ds : List D} (h : RpB K cm S H v (.dt ks ds)) (e : Ex S H) : ∃ p kvs, v = .ref p ∧ H p = some (.dT kvs) ∧ ks = kvs.map (·.1) ∧ RpA K cm S (kvs.map (·.2)) ds := by
  rcases h with h | ⟨p, ho, h1, h2, h3⟩
  · cases h with | dt q k r => exact ⟨_, _, rfl, e _ _ q, k, r⟩
  · cases h3 with | dt k r => exact ⟨p, _, h1, h2, k, r⟩
theorem RpB.obj {n : Str} {ns : List Str} {ds : List D} (h : RpB K cm S H v (.obj n ns ds)) (e : Ex S H) : ∃ p C dx fs, v = .ref p ∧ cm n = some C ∧ H p = some (.ins C dx fs) ∧ ns = fs.map (·.1) ∧ RpA K cm S (fs.map (·.2)) ds := by
  rcases h with h | ⟨p, ho, h1, h2, h3⟩
  · cases h with | obj c q k r => exact ⟨_, _, _, _, rfl, c, e _ _ q, k, r⟩
  · cases h3 with | obj c k r => exact ⟨p, _, _, _, h1, c, h2, k, r⟩
end

/-- a value, or one of the own lists at the places A -/
def RmV (K : PySem.W.Frag) (cm : CM) (A : List Addr) (S : Hp) (v : V) (d : D) : Prop := Rp K cm S v d ∨ ∃ k a, d = .own k ∧ A[k]? = some a ∧ v = .ref a
def RmA (K : PySem.W.Frag) (cm : CM) (A : List Addr) (S : Hp) (vs : List V) (ds : List D) : Prop := vs.length = ds.length ∧ ∀ (i : Nat) v d, vs[i]? = some v → ds[i]? = some d → RmV K cm A S v d
def SlotOk (c : Cf) (H0 S H : Hp) : Ow → V → D → Prop
  | .v, v, d => Rp c.K c.cm S v d
  | .o, v, d => ∃ p ho, v = .ref p ∧ H p = some ho ∧ S p = none ∧ H0 p = none ∧ RpO c.K c.cm S ho d
  | .b, v, d => RpB c.K c.cm S H0 v d
  | .s, v, d => ∃ k M, d = .st k M
  | .w, v, d => ∃ k, d = .own k
  | .x a C dd, v, d => v = .ref a ∧ ∃ n ns ds fs, d = .obj n ns ds ∧ c.cm n = some C ∧ S dd = some (.xd fs) ∧ ns = fs.map (·.1) ∧ RpA c.K c.cm S (fs.map (·.2)) ds

abbrev kd (G : List Ow) (i : Nat) : Ow := G.getD i .v
/-- the own lists that stand in each other, at the places A -/
structure StoOk (K : PySem.W.Frag) (cm : CM) (H0 : Hp) (G : List Ow) (S H : Hp) (σ : St) (r : Rho) (A : List Addr) : Prop where
  nod : A.Nodup
  out : ∀ a ∈ A, S a = none ∧ H0 a = none ∧ ∃ xs, H a = some (.lst xs)
  own : ∀ i d p, r[i]? = some (some d) → kd G i = .o → σ[i]? = some (some (.ref p)) → p ∉ A
  st : ∀ i k M, kd G i = .s → r[i]? = some (some (.st k M)) → A.length = M.length ∧ (∃ a, A[k]? = some a ∧ σ[i]? = some (some (.ref a))) ∧ ∀ (n : Nat) row, M[n]? = some row → ∃ a xs, A[n]? = some a ∧ H a = some (.lst xs) ∧ RmA K cm A S xs row
  al : ∀ i k, kd G i = .w → r[i]? = some (some (.own k)) → ∃ a, A[k]? = some a ∧ σ[i]? = some (some (.ref a))
theorem RmA.mono {K : PySem.W.Frag} {cm : CM} {A : List Addr} {S S' : Hp} {vs : List V} {ds : List D} (h : RmA K cm A S vs ds) (e : Ex S S') : RmA K cm A S' vs ds :=
  ⟨h.1, fun i v d hv hd => (h.2 i v d hv hd).imp (fun z => z.mono e) id⟩
theorem StoOk.sub {K : PySem.W.Frag} {cm : CM} {H0 S H S' H' : Hp} {G G' : List Ow} {σ σ' : St} {r r' : Rho} {A : List Addr} (h : StoOk K cm H0 G S H σ r A) (hS : ∀ a ∈ A, S' a = none) (hH : ∀ a ∈ A, H' a = H a) (eS : Ex S S')
    (ho : ∀ i d p, r'[i]? = some (some d) → kd G' i = .o → σ'[i]? = some (some (.ref p)) → p ∉ A)
    (hs : ∀ i d, kd G' i = .s ∨ kd G' i = .w → r'[i]? = some (some d) → kd G i = kd G' i ∧ r[i]? = some (some d) ∧ σ'[i]? = σ[i]?) : StoOk K cm H0 G' S' H' σ' r' A where
  nod := h.nod
  out := fun a ha => by
    obtain ⟨_, h2, h3⟩ := h.out a ha
    exact ⟨hS a ha, h2, by rw [hH a ha]; exact h3⟩
  own := ho
  st := fun i k M hi hr => by
    obtain ⟨a1, a2, a3⟩ := hs i _ (.inl hi) hr
    obtain ⟨b1, b2, b3⟩ := h.st i k M (a1.trans hi) a2
    refine ⟨b1, by rw [a3]; exact b2, fun n row hn => ?_⟩
    obtain ⟨a, xs, c1, c2, c3⟩ := b3 n row hn
    exact ⟨a, xs, c1, by rw [hH a (List.mem_of_getElem? c1)]; exact c2, c3.mono eS⟩
  al := fun i k hi hr => by
    obtain ⟨a1, a2, a3⟩ := hs i _ (.inr hi) hr
    rw [a3]
    exact h.al i k (a1.trans hi) a2
theorem StoOk.go {K : PySem.W.Frag} {cm : CM} {H0 S H S' H' : Hp} {G : List Ow} {σ : St} {r : Rho} {A : List Addr} (h : StoOk K cm H0 G S H σ r A) (f : Fwd S H S' H') : StoOk K cm H0 G S' H' σ r A :=
  h.sub (fun a ha => by
    obtain ⟨h1, _, xs, h3⟩ := h.out a ha
    cases e : S' a with
    | none => rfl
    | some u => rw [f.new a u e h1] at h3; cases h3) (fun a ha => by
    obtain ⟨_, _, xs, h3⟩ := h.out a ha
    rw [h3]; exact f.h a _ h3) f.s h.own fun i d hi hr => ⟨rfl, hr, rfl⟩
/-- no such lists -/
theorem StoOk.nil {K : PySem.W.Frag} {cm : CM} {H0 S H : Hp} {G : List Ow} {σ : St} {r : Rho} (h : ∀ i d, r[i]? = some (some d) → kd G i ≠ .s ∧ kd G i ≠ .w) : StoOk K cm H0 G S H σ r [] where
  nod := List.nodup_nil
  out := fun a ha => by cases ha
  own := fun i d p _ _ _ hp => by cases hp
  st := fun i k M hi hr => absurd hi (h i _ hr).1
  al := fun i k hi hr => absurd hi (h i _ hr).2
structure EnvOk (c : Cf) (S0 H0 : Hp) (G : List Ow) (S H : Hp) (σ : St) (r : Rho) : Prop where
  fwd : Fwd S0 H0 S H
  len : σ.length = r.length
  slot : ∀ i d, r[i]? = some (some d) → ∃ v, σ[i]? = some (some v) ∧ SlotOk c H0 S H (kd G i) v d
  sep : ∀ i j d e p, r[i]? = some (some d) → r[j]? = some (some e) → kd G i = .o → kd G j = .o → σ[i]? = some (some (.ref p)) → σ[j]? = some (some (.ref p)) → i = j
  sto : ∃ A, StoOk c.K c.cm H0 G S H σ r A

section
variable {c : Cf} {S0 H0 S H S' H' : Hp} {G : List Ow} {σ : St} {r : Rho}
theorem SlotOk.mono {k : Ow} {v : V} {d : D} (h : SlotOk c H0 S H k v d) (f : Fwd S H S' H') : SlotOk c H0 S' H' k v d := by
  cases k with
  | v => exact Rp.mono f.s h
  | o =>
    obtain ⟨p, ho, h1, h2, h3, h4, h5⟩ := h
    refine ⟨p, ho, h1, f.h p _ h2, ?_, h4, h5.mono f.s⟩
    cases e : S' p with
    | none => rfl
    | some u => rw [f.new p u e h3] at h2; cases h2
  | b => exact RpB.mono h f.s Ex.refl
  | s => exact h
  | w => exact h
  | x a C dd =>
    obtain ⟨h1, n, ns, ds, fs, h2, h3, h4, h5, h6⟩ := h
    exact ⟨h1, n, ns, ds, fs, h2, h3, f.s _ _ h4, h5, h6.mono f.s⟩
theorem EnvOk.go (e : EnvOk c S0 H0 G S H σ r) (f : Fwd S H S' H') : EnvOk c S0 H0 G S' H' σ r :=
  ⟨e.fwd.trans f, e.len, fun i d h => let ⟨v, h1, h2⟩ := e.slot i d h; ⟨v, h1, h2.mono f⟩, e.sep, let ⟨A, h⟩ := e.sto; ⟨A, h.go f⟩⟩
theorem EnvOk.ex (e : EnvOk c S0 H0 G S H σ r) : Ex S H := e.fwd.sub

theorem kd_set_self (G : List Ow) (i : Nat) : kd (G.set i .v) i = .v := by
  show (G.set i .v).getD i .v = .v
  rw [List.getD_eq_getElem?_getD, List.getElem?_set]
  split
  · split <;> rfl
  · rename_i h; exact absurd rfl h
theorem kd_set_ne {G : List Ow} {i j : Nat} {k : Ow} (h : i ≠ j) : kd (G.set i k) j = kd G j := by
  show (G.set i k).getD j .v = G.getD j .v
  rw [List.getD_eq_getElem?_getD, List.getD_eq_getElem?_getD, List.getElem?_set_ne h]
theorem kd_set_o {G : List Ow} {i : Nat} {k : Ow} (h : i < G.length) : kd (G.set i k) i = k := by
  show (G.set i k).getD i .v = k
  rw [List.getD_eq_getElem?_getD, List.getElem?_set_self h]; rfl
theorem set_some {α : Type} {l : List (Option α)} {i j : Nat} {a : Option α} {b : α} (h : (l.set i a)[j]? = some (some b)) : (i = j ∧ a = some b ∧ i < l.length) ∨ (i ≠ j ∧ l[j]? = some (some b)) := by
  by_cases e : i = j
  · subst e
    rw [List.getElem?_set] at h
    rw [if_pos rfl] at h
    split at h
    · rename_i hl; exact .inl ⟨rfl, Option.some.inj h, hl⟩
    · cases h
  · rw [List.getElem?_set_ne e] at h
    exact .inr ⟨e, h⟩

/-- a slot gets a value -/
theorem EnvOk.setV (e : EnvOk c S0 H0 G S H σ r) {v : V} {d : D} (i : Nat) (h : Rp c.K c.cm S v d) : EnvOk c S0 H0 (G.set i .v) S H (σ.set i (some v)) (r.set i (some d)) := by
  refine ⟨e.fwd, by simp [e.len], fun j b hb => ?_, fun j k b b' p hj hk kj kk sj sk => ?_, let ⟨A, hA⟩ := e.sto; ⟨A, hA.sub (fun a ha => (hA.out a ha).1) (fun _ _ => rfl) Ex.refl (fun j b q hj kj sj => ?_) fun j b kj hj => ?_⟩⟩
  · rcases set_some hb with ⟨rfl, ea, hl⟩ | ⟨ne, hb⟩
    · cases ea
      exact ⟨v, by rw [List.getElem?_set_self (by rw [e.len]; exact hl)], by rw [kd_set_self]; exact h⟩
    · obtain ⟨u, h1, h2⟩ := e.slot j b hb
      exact ⟨u, by rw [List.getElem?_set_ne ne]; exact h1, by rw [kd_set_ne ne]; exact h2⟩
  · have nj : i ≠ j := fun z => by subst z; rw [kd_set_self] at kj; cases kj
    have nk : i ≠ k := fun z => by subst z; rw [kd_set_self] at kk; cases kk
    rw [List.getElem?_set_ne nj] at hj sj
    rw [List.getElem?_set_ne nk] at hk sk
    rw [kd_set_ne nj] at kj
    rw [kd_set_ne nk] at kk
    exact e.sep j k b b' p hj hk kj kk sj sk
  · have nj : i ≠ j := fun z => by subst z; rw [kd_set_self] at kj; cases kj
    rw [List.getElem?_set_ne nj] at hj sj
    rw [kd_set_ne nj] at kj
    exact hA.own j b q hj kj sj
  · have nj : i ≠ j := fun z => by subst z; rw [kd_set_self] at kj; rcases kj with kj | kj <;> cases kj
    rw [List.getElem?_set_ne nj] at hj
    rw [kd_set_ne nj, List.getElem?_set_ne nj]
    exact ⟨rfl, hj, rfl⟩
/-- a slot gets a new mutable object -/
theorem EnvOk.setO (e : EnvOk c S0 H0 G S H σ r) (f : Fwd S H S' H') {p : Addr} {ho : HO} {d : D} (i : Nat) (hi : i < G.length) (n : H p = none) (ns : S' p = none) (hp : H' p = some ho) (h : RpO c.K c.cm S' ho d) :
    EnvOk c S0 H0 (G.set i .o) S' H' (σ.set i (some (.ref p))) (r.set i (some d)) := by
  have e' := e.go f
  have fresh : ∀ j b, r[j]? = some (some b) → kd G j = .o → σ[j]? ≠ some (some (.ref p)) := fun j b hb kj sj => by
    obtain ⟨u, h1, h2⟩ := e.slot j b hb
    rw [kj] at h2
    obtain ⟨q, ho', z1, z2, _⟩ := h2
    rw [sj] at h1; cases h1; cases z1
    rw [n] at z2; cases z2
  refine ⟨e'.fwd, by simp [e.len], fun j b hb => ?_, fun j k b b' q hj hk kj kk sj sk => ?_, let ⟨A, hA⟩ := e.sto; ⟨A, (hA.go f).sub (fun a ha => ((hA.go f).out a ha).1) (fun _ _ => rfl) Ex.refl (fun j b q hj kj sj => ?_) fun j b kj hj => ?_⟩⟩
  · rcases set_some hb with ⟨rfl, ea, hl⟩ | ⟨ne, hb⟩
    · cases ea
      refine ⟨.ref p, by rw [List.getElem?_set_self (by rw [e.len]; exact hl)], ?_⟩
      rw [kd_set_o hi]
      exact ⟨p, ho, rfl, hp, ns, e.fwd.h.nn n, h⟩
    · obtain ⟨u, h1, h2⟩ := e'.slot j b hb
      exact ⟨u, by rw [List.getElem?_set_ne ne]; exact h1, by rw [kd_set_ne ne]; exact h2⟩
  · by_cases nj : i = j
    · by_cases nk : i = k
      · rw [← nj, nk]
      · subst nj
        exfalso
        rcases set_some sj with ⟨_, ea, _⟩ | ⟨ne, _⟩
        · cases ea
          rw [List.getElem?_set_ne nk] at hk sk
          rw [kd_set_ne nk] at kk
          exact fresh k _ hk kk sk
        · exact ne rfl
    · by_cases nk : i = k
      · subst nk
        exfalso
        rcases set_some sk with ⟨_, ea, _⟩ | ⟨ne, _⟩
        · cases ea
          rw [List.getElem?_set_ne nj] at hj sj
          rw [kd_set_ne nj] at kj
          exact fresh j _ hj kj sj
        · exact ne rfl
      · rw [List.getElem?_set_ne nj] at hj sj
        rw [List.getElem?_set_ne nk] at hk sk
        rw [kd_set_ne nj] at kj
        rw [kd_set_ne nk] at kk
        exact e.sep j k b b' q hj hk kj kk sj sk
  · rcases set_some sj with ⟨_, ea, _⟩ | ⟨nj, sj⟩
    · cases ea
      intro ha
      obtain ⟨_, _, xs, h3⟩ := hA.out p ha
      rw [n] at h3; cases h3
    · rw [List.getElem?_set_ne nj] at hj
      rw [kd_set_ne nj] at kj
      exact hA.own j b q hj kj sj
  · have nj : i ≠ j := fun z => by subst z; rw [kd_set_o hi] at kj; rcases kj with kj | kj <;> cases kj
    rw [List.getElem?_set_ne nj] at hj
    rw [kd_set_ne nj, List.getElem?_set_ne nj]
    exact ⟨rfl, hj, rfl⟩
/-- the own object in slot i: its place -/
theorem EnvOk.own (e : EnvOk c S0 H0 G S H σ r) {i : Nat} {d : D} (k : kd G i = .o) (h : r[i]? = some (some d)) : ∃ p ho, σ[i]? = some (some (.ref p)) ∧ H p = some ho ∧ S p = none ∧ H0 p = none ∧ RpO c.K c.cm S ho d := by
  obtain ⟨v, h1, h2⟩ := e.slot i d h
  rw [k] at h2
  obtain ⟨p, ho, rfl, h3⟩ := h2
  exact ⟨p, ho, h1, h3⟩
/-- the own object in slot i is changed -/
theorem EnvOk.mut (e : EnvOk c S0 H0 G S H σ r) {i : Nat} {d d' : D} {p : Addr} {ho' : HO} (k : kd G i = .o) (h : r[i]? = some (some d)) (hs : σ[i]? = some (some (.ref p))) (h' : RpO c.K c.cm S ho' d') :
    EnvOk c S0 H0 G S (upd H p ho') σ (r.set i (some d')) := by
  obtain ⟨q, ho, s1, s2, s3, s4, s5⟩ := e.own k h
  rw [hs] at s1; cases s1
  have hf : Fwd S0 H0 S (upd H p ho') := ⟨e.fwd.s, e.fwd.h.put s4, e.fwd.sub.put s3, e.fwd.new⟩
  refine ⟨hf, by simp [e.len], fun j b hb => ?_, fun j l b b' q hj hk kj kk sj sk => ?_, let ⟨A, hA⟩ := e.sto; ⟨A, hA.sub (fun a ha => (hA.out a ha).1) (fun a ha => upd_ne fun z => hA.own i d p h k hs (z ▸ ha)) Ex.refl (fun j b q hj kj sj => ?_) fun j b kj hj => ?_⟩⟩
  · rcases set_some hb with ⟨rfl, ea, hl⟩ | ⟨ne, hb⟩
    · cases ea
      refine ⟨.ref p, hs, ?_⟩
      rw [k]
      exact ⟨p, ho', rfl, upd_same, s3, s4, h'⟩
    · obtain ⟨u, h1, h2⟩ := e.slot j b hb
      refine ⟨u, h1, ?_⟩
      cases kj : kd G j with
      | v => rw [kj] at h2; exact h2
      | b => rw [kj] at h2; exact h2
      | s => rw [kj] at h2; exact h2
      | w => rw [kj] at h2; exact h2
      | x a C dd => rw [kj] at h2; exact h2
      | o =>
        rw [kj] at h2
        obtain ⟨q, hq, z1, z2, z3, z4, z5⟩ := h2
        subst z1
        have : q ≠ p := fun z => by subst z; exact ne (e.sep i j d b q h hb k kj hs h1)
        exact ⟨q, hq, rfl, by rw [upd_ne this]; exact z2, z3, z4, z5⟩
  · have un : ∀ m b, (r.set i (some d'))[m]? = some (some b) → ∃ b', r[m]? = some (some b') := fun m b hm => by
      rcases set_some hm with ⟨rfl, _, _⟩ | ⟨_, hm⟩
      · exact ⟨d, h⟩
      · exact ⟨b, hm⟩
    obtain ⟨b1, hj⟩ := un j b hj
    obtain ⟨b2, hk⟩ := un l b' hk
    exact e.sep j l b1 b2 q hj hk kj kk sj sk
  · rcases set_some hj with ⟨nj, _, _⟩ | ⟨_, hj⟩
    · subst nj
      exact hA.own i d q h kj sj
    · exact hA.own j b q hj kj sj
  · rcases set_some hj with ⟨nj, _, _⟩ | ⟨_, hj⟩
    · subst nj
      rw [k] at kj; rcases kj with kj | kj <;> cases kj
    · exact ⟨rfl, hj, rfl⟩
theorem StoOk.un {A : List Addr} (hA : StoOk c.K c.cm H0 G S H σ r A) (i : Nat) (hk : kd G i = .o ∨ kd G i = .v) (hS : ∀ a ∈ A, S' a = none) (eS : Ex S S') : StoOk c.K c.cm H0 (G.set i .v) S' H σ r A :=
  hA.sub hS (fun _ _ => rfl) eS (fun j b q hj kj sj => by
    have nj : i ≠ j := fun z => by subst z; rw [kd_set_self] at kj; cases kj
    rw [kd_set_ne nj] at kj
    exact hA.own j b q hj kj sj) fun j b kj hj => by
    have nj : i ≠ j := fun z => by subst z; rw [kd_set_self] at kj; rcases kj with kj | kj <;> cases kj
    rw [kd_set_ne nj]
    exact ⟨rfl, hj, rfl⟩
theorem EnvOk.sto_un (e : EnvOk c S0 H0 G S H σ r) (i : Nat) (hk : kd G i = .o ∨ kd G i = .v) : ∃ A, StoOk c.K c.cm H0 (G.set i .v) S H σ r A :=
  let ⟨A, hA⟩ := e.sto
  ⟨A, hA.un i hk (fun a ha => (hA.out a ha).1) Ex.refl⟩
/-- the own object in slot i becomes a value -/
theorem EnvOk.pub (e : EnvOk c S0 H0 G S H σ r) (i : Nat) (hk : kd G i = .o ∨ kd G i = .v) : ∃ S', EnvOk c S0 H0 (G.set i .v) S' H σ r := by
  by_cases k : kd G i = .o
  · cases h : r[i]? with
    | none =>
      refine ⟨S, e.fwd, e.len, fun j b hb => ?_, fun j l b b' q hj hk kj kk sj sk => ?_, e.sto_un i hk⟩
      · have ne : i ≠ j := fun z => by subst z; rw [h] at hb; cases hb
        obtain ⟨u, h1, h2⟩ := e.slot j b hb
        exact ⟨u, h1, by rw [kd_set_ne ne]; exact h2⟩
      · have nj : i ≠ j := fun z => by subst z; rw [h] at hj; cases hj
        have nl : i ≠ l := fun z => by subst z; rw [h] at hk; cases hk
        rw [kd_set_ne nj] at kj
        rw [kd_set_ne nl] at kk
        exact e.sep j l b b' q hj hk kj kk sj sk
    | some od =>
      cases od with
      | none =>
        refine ⟨S, e.fwd, e.len, fun j b hb => ?_, fun j l b b' q hj hk kj kk sj sk => ?_, e.sto_un i hk⟩
        · have ne : i ≠ j := fun z => by subst z; rw [h] at hb; cases hb
          obtain ⟨u, h1, h2⟩ := e.slot j b hb
          exact ⟨u, h1, by rw [kd_set_ne ne]; exact h2⟩
        · have nj : i ≠ j := fun z => by subst z; rw [h] at hj; cases hj
          have nl : i ≠ l := fun z => by subst z; rw [h] at hk; cases hk
          rw [kd_set_ne nj] at kj
          rw [kd_set_ne nl] at kk
          exact e.sep j l b b' q hj hk kj kk sj sk
      | some d =>
        obtain ⟨p, ho, s1, s2, s3, s4, s5⟩ := e.own k h
        have ex : Ex S (upd S p ho) := Ex.new s3
        refine ⟨upd S p ho, ⟨e.fwd.s.trans ex, e.fwd.h, fun a u ha => ?_, fun a u ha m => ?_⟩, e.len, fun j b hb => ?_, fun j l b b' q hj hk kj kk sj sk => ?_, let ⟨A, hA⟩ := e.sto; ⟨A, hA.un i hk (fun a ha => by have np : a ≠ p := fun z => hA.own i d p h k s1 (z ▸ ha); rw [upd_ne np]; exact (hA.out a ha).1) ex⟩⟩
        · by_cases hh : a = p
          · subst hh; rw [upd_same] at ha; rw [s2]; exact ha
          · rw [upd_ne hh] at ha; exact e.fwd.sub a u ha
        · by_cases hh : a = p
          · subst hh; exact s4
          · rw [upd_ne hh] at ha; exact e.fwd.new a u ha m
        · by_cases ne : i = j
          · subst ne
            rw [h] at hb; cases hb
            refine ⟨.ref p, s1, ?_⟩
            rw [kd_set_self]
            exact (s5.mono ex).pub upd_same
          · obtain ⟨u, h1, h2⟩ := e.slot j b hb
            refine ⟨u, h1, ?_⟩
            rw [kd_set_ne ne]
            cases kj : kd G j with
            | v => rw [kj] at h2; exact Rp.mono ex h2
            | b => rw [kj] at h2; exact RpB.mono h2 ex Ex.refl
            | s => rw [kj] at h2; exact h2
            | w => rw [kj] at h2; exact h2
            | x a C dd =>
              rw [kj] at h2
              obtain ⟨y1, n, ns, ds, fs, y2, y3, y4, y5, y6⟩ := h2
              exact ⟨y1, n, ns, ds, fs, y2, y3, ex _ _ y4, y5, y6.mono ex⟩
            | o =>
              rw [kj] at h2
              obtain ⟨q, hq, z1, z2, z3, z4, z5⟩ := h2
              subst z1
              have : q ≠ p := fun z => by subst z; exact ne (e.sep i j d b q h hb k kj s1 h1)
              exact ⟨q, hq, rfl, z2, by rw [upd_ne this]; exact z3, z4, z5.mono ex⟩
        · have nj : i ≠ j := fun z => by subst z; rw [kd_set_self] at kj; cases kj
          have nl : i ≠ l := fun z => by subst z; rw [kd_set_self] at kk; cases kk
          rw [kd_set_ne nj] at kj
          rw [kd_set_ne nl] at kk
          exact e.sep j l b b' q hj hk kj kk sj sk
  · have k' : kd G i = .v := hk.resolve_left k
    have all : ∀ j, kd (G.set i .v) j = kd G j := fun j => by
      by_cases ne : i = j
      · subst ne; rw [kd_set_self, k']
      · exact kd_set_ne ne
    exact ⟨S, e.fwd, e.len, fun j b hb => by rw [all]; exact e.slot j b hb, fun j l b b' q hj hk kj kk sj sk => e.sep j l b b' q hj hk ((all j).symm.trans kj) ((all l).symm.trans kk) sj sk, e.sto_un i hk⟩
end
end Dx

end S_DxA
section S_DxB
set_option Elab.async false
set_option linter.all false
set_option maxRecDepth 100000
set_option maxHeartbeats 2000000
/-! Dx, part B: readings by data, expressions. -/
namespace Dx
open PySem L2

/-- what is wanted behind a result, from (S, H) on -/
def PostG (c : Cf) (σ : St) (S H : Hp) {α : Type} (r : Res α) (k : α → Hp → Hp → Prop) : Prop :=
  match r with
  | .ok a => ∀ S' H', Fwd S H S' H' → k a S' H'
  | .err n ns vs => ∀ C dd S' H' fs, c.cm n = some C → Fwd S H S' H' → S' dd = some (.xd fs) → ns = fs.map (·.1) → RpA c.K c.cm S' (fs.map (·.2)) vs → c.W (.ref C) (some dd) σ H'
  | .bad => False
section
variable {c : Cf} {σ : St} {S H S1 H1 : Hp} {α β : Type} {r : Res α} {k k' : α → Hp → Hp → Prop}
theorem PostG.mono (h : PostG c σ S H r k) (f : Fwd S H S1 H1) : PostG c σ S1 H1 r k := by
  cases r with
  | ok a => exact fun S' H' g => h S' H' (f.trans g)
  | err n ns vs => exact fun C dd S' H' fs h1 g h2 h3 h4 => h C dd S' H' fs h1 (f.trans g) h2 h3 h4
  | bad => exact h
theorem PostG.imp (h : PostG c σ S H r k) (hk : ∀ a S' H', Fwd S H S' H' → k a S' H' → k' a S' H') : PostG c σ S H r k' := by
  cases r with
  | ok a => exact fun S' H' g => hk a S' H' g (h S' H' g)
  | err n ns vs => exact h
  | bad => exact h
theorem PostG.unbind {g : α → Res β} {k : β → Hp → Hp → Prop} (h : PostG c σ S H (r.bind g) k) : PostG c σ S H r fun a S' H' => PostG c σ S' H' (g a) k := by
  cases r with
  | ok a => exact fun S' H' f => PostG.mono (show PostG c σ S H (g a) k from h) f
  | err n ns vs => exact h
  | bad => exact h
end

/-- x where p holds; nothing is reckoned for it -/
noncomputable def guard {α : Type} (p : Prop) (x : Res α) : Res α := @ite _ p (Classical.propDecidable p) x .bad
theorem guard_pos {α : Type} {p : Prop} {x : Res α} (h : p) : guard p x = x := by unfold guard; exact if_pos h
theorem guard_true {α : Type} {x : Res α} : guard True x = x := guard_pos trivial
theorem PostG.gd {c : Cf} {σ : St} {S H : Hp} {α : Type} {p : Prop} {x : Res α} {k : α → Hp → Hp → Prop} (h : PostG c σ S H (guard p x) k) : p ∧ PostG c σ S H x k := by
  by_cases hp : p
  · rw [guard_pos hp] at h; exact ⟨hp, h⟩
  · unfold guard at h; rw [if_neg hp] at h; exact h.elim
/-- a mode: what the heap ahead, the heaps behind, the machine's result and the data have in common -/
abbrev Md (β α : Type) := Hp → Hp → Hp → β → α → Prop
class Anti {β α : Type} (R : Md β α) : Prop where
  anti : ∀ {H H2 S' H' : Hp} {b : β} {a : α}, Ex H H2 → R H2 S' H' b a → R H S' H' b a
def mV (c : Cf) : Md V D := fun _ S' _ v d => Rp c.K c.cm S' v d
def mB (c : Cf) : Md V D := fun _ S' H' v d => RpB c.K c.cm S' H' v d
def mO (c : Cf) : Md V D := fun H S' H' v d => ∃ p ho, v = .ref p ∧ H p = none ∧ S' p = none ∧ H' p = some ho ∧ RpO c.K c.cm S' ho d
def mA (c : Cf) : Md (List V) (List D) := fun _ S' _ vs ds => RpA c.K c.cm S' vs ds
def mE (α : Type) : Md α α := fun _ _ _ b a => b = a
instance {c : Cf} : Anti (mV c) := ⟨fun _ h => h⟩
instance {c : Cf} : Anti (mB c) := ⟨fun _ h => h⟩
instance {c : Cf} : Anti (mA c) := ⟨fun _ h => h⟩
instance {α : Type} : Anti (mE α) := ⟨fun _ h => h⟩
instance {c : Cf} : Anti (mO c) := ⟨fun e ⟨p, ho, h1, h2, h3⟩ => ⟨p, ho, h1, e.nn h2, h3⟩⟩

/-- the reading of a piece whose data is f -/
def rd (c : Cf) (G : List Ow) {α β : Type} (f : Rho → Res α) (R : Md β α) : St → Hp → (β → Hp → Prop) → Prop := fun σ H Q =>
  ∃ S0 H0 S r, EnvOk c S0 H0 G S H σ r ∧ PostG c σ S H (f r) fun a S' H' => ∀ b, R H S' H' b a → Q b H'
abbrev tV (c : Cf) (G : List Ow) (f : Rho → Res D) : TE := rd c G f (mV c)
abbrev tR (c : Cf) (G : List Ow) (f : Rho → Res D) : TE := rd c G f (mB c)
abbrev tO (c : Cf) (G : List Ow) (f : Rho → Res D) : TE := rd c G f (mO c)
abbrev tT (c : Cf) (G : List Ow) (f : Rho → Res Bool) : TT := rd c G f (mE Bool)
abbrev tAs (c : Cf) (G : List Ow) (f : Rho → Res (List D)) : TA := rd c G f (mA c)

theorem pe_imp {X : Cx} {e : Expr} {t t' : TE} (h : PE X e t) (k : ∀ σ H Q, t' σ H Q → t σ H Q) : PE X e t' := ⟨fun pins s σ H Q I q => h.run pins s σ H Q I (k σ H Q q)⟩
theorem pt_imp {X : Cx} {e : Expr} {t t' : TT} (h : PT X e t) (k : ∀ σ H Q, t' σ H Q → t σ H Q) : PT X e t' := ⟨fun pins s σ H Q I q => h.run pins s σ H Q I (k σ H Q q)⟩
theorem pa_imp {X : Cx} {es : List Expr} {t t' : TA} (h : PA X es t) (k : ∀ σ H Q, t' σ H Q → t σ H Q) : PA X es t' := ⟨fun p pins s σ H Q I q => h.run p pins s σ H Q I (k σ H Q q)⟩
theorem ps_imp {X : Cx} {st : Stmt} {t t' : TS} (h : PS X st t) (k : ∀ E σ H, t' E σ H → t E σ H) : PS X st t' := ⟨fun pins s σ H E I q => h.run pins s σ H E I (k E σ H q)⟩
theorem pss_imp {X : Cx} {st : List Stmt} {t t' : TS} (h : PSs X st t) (k : ∀ E σ H, t' E σ H → t E σ H) : PSs X st t' := ⟨fun pins s σ H E I q => h.run pins s σ H E I (k E σ H q)⟩

section
variable {c : Cf} {G : List Ow} {σ : St} {S0 H0 S H : Hp} {r : Rho} {α β γ : Type}
/-- one piece, then what follows -/
theorem rd_seq {f : Rho → Res α} {R : Md β α} (e : EnvOk c S0 H0 G S H σ r) {g : α → Res γ} {k : γ → Hp → Hp → Prop} (p : PostG c σ S H ((f r).bind g) k) {Q : β → Hp → Prop}
    (h : ∀ a b S' H', Fwd S H S' H' → EnvOk c S0 H0 G S' H' σ r → R H S' H' b a → PostG c σ S' H' (g a) k → Q b H') : rd c G f R σ H Q :=
  ⟨S0, H0, S, r, e, p.unbind.imp fun a S' H' fw hk b hb => h a b S' H' fw (e.go fw) hb hk⟩
/-- the last piece -/
theorem rd_last {f : Rho → Res α} {R : Md β α} (e : EnvOk c S0 H0 G S H σ r) {k : α → Hp → Hp → Prop} (p : PostG c σ S H (f r) k) {Q : β → Hp → Prop}
    (h : ∀ a b S' H', Fwd S H S' H' → EnvOk c S0 H0 G S' H' σ r → R H S' H' b a → k a S' H' → Q b H') : rd c G f R σ H Q :=
  ⟨S0, H0, S, r, e, p.imp fun a S' H' fw hk b hb => h a b S' H' fw (e.go fw) hb hk⟩
theorem PostG.anti {R : Md β α} [Anti R] {H2 : Hp} {x : Res α} {Q : β → Hp → Prop} (e : Ex H H2) {S2 : Hp} (p : PostG c σ S2 H2 x fun a S' H' => ∀ b, R H S' H' b a → Q b H') :
    PostG c σ S2 H2 x fun a S' H' => ∀ b, R H2 S' H' b a → Q b H' := p.imp fun _ _ _ _ hk b hb => hk b (Anti.anti e hb)
/-- the wish behind a value that is there -/
theorem PostG.here {R : Md β α} {a : α} {b : β} {Q : β → Hp → Prop} (p : PostG c σ S H (.ok a) fun a S' H' => ∀ b, R H S' H' b a → Q b H') (e : Ex S H) (h : R H S H b a) : Q b H := p S H (Fwd.refl e) b h
theorem PostG.go {a : α} {k : α → Hp → Hp → Prop} (p : PostG c σ S H (.ok a) k) (e : Ex S H) : k a S H := p S H (Fwd.refl e)
/-- .. behind a new object that stays; that is kept own -/
theorem PostG.laid {d : D} {o : HO} {q : Addr} {Q : VK} (p : PostG c σ S H (.ok d) fun a S' H' => ∀ b, mV c H S' H' b a → Q b H') (e : Ex S H) (n : H q = none) (h : Rp c.K c.cm (upd S q o) (.ref q) d) : Q (.ref q) (upd H q o) :=
  p _ _ (Fwd.both e n) _ h
theorem PostG.kept {d : D} {o : HO} {q : Addr} {Q : VK} (p : PostG c σ S H (.ok d) fun a S' H' => ∀ b, mO c H S' H' b a → Q b H') (e : Ex S H) (n : H q = none) (h : RpO c.K c.cm S o d) : Q (.ref q) (upd H q o) :=
  p _ _ (Fwd.heap e n) _ ⟨q, o, rfl, n, e.nn n, upd_same, h⟩
end

section
variable {X : Cx} {c : Cf} {G : List Ow} {f f1 f2 : Rho → Res D} {a b e : Expr} {pos : Pos}
/-! ### modes -/
theorem de_pub (h : PE X e (tO c G f)) : PE X e (tV c G f) := pe_imp h fun σ H Q ⟨S0, H0, S, r, ok, p⟩ => ⟨S0, H0, S, r, ok, by
  revert p
  cases f r with
  | ok d =>
    intro p S' H' fw b hb
    obtain ⟨q, ho, rfl, h1, h2, h3, h4⟩ := hb
    have fw' := fw.pub h1 h2 h3
    exact p _ H' fw' _ ((h4.mono (Ex.new h2)).pub upd_same)
  | err n ns vs => exact id
  | bad => exact id⟩
theorem de_bor (h : PE X e (tR c G f)) : PE X e (tV c G f) → True := fun _ => trivial
theorem db_of (h : PE X e (tV c G f)) : PE X e (tR c G f) := pe_imp h fun σ H Q ⟨S0, H0, S, r, ok, p⟩ => ⟨S0, H0, S, r, ok, p.imp fun _ _ _ _ hk b hb => hk b (.inl hb)⟩
theorem db_own (h : PE X e (tO c G f)) : PE X e (tR c G f) := db_of (de_pub h)

/-! ### names, constants -/
def dVar (i : Nat) : Rho → Res D := fun r => match r[i]? with
  | some (some d) => .ok d
  | _ => .bad
def dC (d : D) : Rho → Res D := fun _ => .ok d
theorem dVar_ok {i : Nat} {r : Rho} {d : D} (h : r[i]? = some (some d)) : dVar i r = .ok d := by unfold dVar; rw [h]
theorem of_dVar {σ : St} {S H : Hp} {i : Nat} {r : Rho} {k : D → Hp → Hp → Prop} (p : PostG c σ S H (dVar i r) k) : ∃ d, r[i]? = some (some d) ∧ PostG c σ S H (.ok d) k := by
  unfold dVar at p
  split at p
  · exact ⟨_, by assumption, p⟩
  · exact p.elim
theorem de_var (i : Nat) {x : Str} (h : PE X (.Name x pos) (tVar i)) (k : kd G i = .v) : PE X (.Name x pos) (tV c G (dVar i)) := pe_imp h fun σ H Q ⟨S0, H0, S, r, ok, p⟩ => by
  obtain ⟨d, hd, p⟩ := of_dVar p
  obtain ⟨v, h1, h2⟩ := ok.slot i d hd
  rw [k] at h2
  exact ⟨v, h1, p.here ok.ex h2⟩
theorem db_var (i : Nat) {x : Str} (h : PE X (.Name x pos) (tVar i)) (k : kd G i = .v ∨ kd G i = .o ∨ kd G i = .b) : PE X (.Name x pos) (tR c G (dVar i)) := pe_imp h fun σ H Q ⟨S0, H0, S, r, ok, p⟩ => by
  obtain ⟨d, hd, p⟩ := of_dVar p
  obtain ⟨v, h1, h2⟩ := ok.slot i d hd
  refine ⟨v, h1, p.here ok.ex ?_⟩
  rcases k with k | k | k
  · rw [k] at h2; exact .inl h2
  · rw [k] at h2
    obtain ⟨q, ho, z1, z2, z3, z4, z5⟩ := h2
    exact .inr ⟨q, ho, z1, z2, z5⟩
  · rw [k] at h2
    exact RpB.mono h2 Ex.refl ok.fwd.h
theorem de_c {v : V} {d : D} (h : PE X e (tC v)) (hd : ∀ S, Rp c.K c.cm S v d) : PE X e (tV c G (dC d)) := pe_imp h fun σ H Q ⟨S0, H0, S, r, ok, p⟩ => p.here ok.ex (hd S)
theorem de_int {i : Int} {j : Nat} : PE X (.Constant (.int i) j pos) (tV c G (dC (.int i))) := de_c pe_int fun _ => .int i
theorem de_bl {b : Bool} {j : Nat} : PE X (.Constant (.bool b) j pos) (tV c G (dC (.bl b))) := de_c pe_bl fun _ => .bl b
theorem de_non {j : Nat} : PE X (.Constant .none j pos) (tV c G (dC .non)) := de_c pe_non fun _ => .non
theorem de_str {x : Str} {j : Nat} : PE X (.Constant (.str x) j pos) (tV c G (dC (.str x))) := de_c pe_str fun _ => .str x

/-! ### two operands -/
def dOp (g : D → D → Res D) (f1 f2 : Rho → Res D) : Rho → Res D := fun r => (f1 r).bind fun x => (f2 r).bind fun y => g x y
def OpS (c : Cf) (R : Md V D) (r2 : R2) (g : D → D → Res D) : Prop := ∀ (σ : St) (S H : Hp) (x y : V) (d e : D) (Q : VK), Ex S H → RpB c.K c.cm S H x d → RpB c.K c.cm S H y e →
  PostG c σ S H (g d e) (fun a S' H' => ∀ b, R H S' H' b a → Q b H') → r2 x y H Q
theorem op_rd {R : Md V D} [Anti R] {r2 : R2} {g : D → D → Res D} (hs : OpS c R r2 g) : ∀ σ H Q, rd c G (dOp g f1 f2) R σ H Q → tOp r2 (tR c G f1) (tR c G f2) σ H Q := fun σ H Q ⟨S0, H0, S, r, ok, p⟩ =>
  rd_seq ok p fun x v S1 H1 w1 o1 m1 p1 => rd_seq o1 p1 fun y u S2 H2 w2 o2 m2 p2 => hs σ S2 H2 v u x y Q o2.ex (RpB.mono m1 w2.s w2.h) m2 (p2.anti (w1.h.trans w2.h))
theorem de_op {R : Md V D} [Anti R] {op : Operator} {r2 : R2} {g : D → D → Res D} (ho : OpR X (binaryOp op) r2) (hs : OpS c R r2 g) (ha : PE X a (tR c G f1)) (hb : PE X b (tR c G f2)) : PE X (.BinOp a op b pos) (rd c G (dOp g f1 f2) R) :=
  pe_imp (pe_op ho ha hb) (op_rd hs)
theorem de_cmp {R : Md V D} [Anti R] {op : CmpOp} {r2 : R2} {g : D → D → Res D} (ho : OpR X (compareOp op) r2) (hs : OpS c R r2 g) (ha : PE X a (tR c G f1)) (hb : PE X b (tR c G f2)) (hm : behindInMarks op b = false) :
    PE X (.Compare a [op] [b] pos) (rd c G (dOp g f1 f2) R) := pe_imp (pe_cmpR ho ha hb hm) (op_rd hs)
/-- a truth value as a test -/
def asB : D → Res Bool
  | .bl b => .ok b
  | _ => .bad
def dT (f : Rho → Res D) : Rho → Res Bool := fun r => (f r).bind asB
theorem of_asB {σ : St} {S H : Hp} {d : D} {k : Bool → Hp → Hp → Prop} (p : PostG c σ S H (asB d) k) : ∃ b, d = .bl b ∧ PostG c σ S H (.ok b) k := by
  cases d with
  | bl b => exact ⟨b, rfl, p⟩
  | _ => exact p.elim
theorem dt_cmp {op : CmpOp} {r2 : R2} {g : D → D → Res D} (ho : OpR X (compareOp op) r2) (hs : OpS c (mV c) r2 g) (ha : PE X a (tR c G f1)) (hb : PE X b (tR c G f2)) (hm : behindInMarks op b = false) :
    PT X (.Compare a [op] [b] pos) (tT c G (dT (dOp g f1 f2))) := pt_imp (pt_cmpR ho ha hb hm) fun σ H Q ⟨S0, H0, S, r, ok, p⟩ => by
  refine op_rd (G := G) (f1 := f1) (f2 := f2) hs σ H _ (rd_seq ok p fun d v S1 H1 w1 o1 m1 p1 => ?_)
  obtain ⟨b, rfl, p1⟩ := of_asB p1
  cases m1
  exact ⟨b, rfl, p1.go o1.ex _ rfl⟩
/-- an expression whose value is True or False, as a test -/
theorem dt_val (h : PE X e (tV c G f)) (he : ∀ whole, isTrue e X.env whole = (do let v ← whole; standAt e.pos; holding [v] (truthy v)) := by intro _; rfl) : PT X e (tT c G (dT f)) :=
  pt_imp (pt_val h he) fun σ H Q ⟨S0, H0, S, r, ok, p⟩ => rd_seq ok p fun d v S1 H1 w1 o1 m1 p1 => by
    obtain ⟨b, rfl, p1⟩ := of_asB p1
    cases m1
    exact ⟨b, rfl, p1.go o1.ex _ rfl⟩
/-! ### and, or, not, if else -/
variable {t1 t2 : Rho → Res Bool} {rest : List Expr}
def dAnd (t u : Rho → Res Bool) : Rho → Res Bool := fun r => (t r).bind fun b => if b = true then u r else .ok false
def dOr (t u : Rho → Res Bool) : Rho → Res Bool := fun r => (t r).bind fun b => if b = true then .ok true else u r
def dNot (t : Rho → Res Bool) : Rho → Res Bool := fun r => (t r).bind fun b => .ok (!b)
def dIf {α : Type} (t : Rho → Res Bool) (f g : Rho → Res α) : Rho → Res α := fun r => (t r).bind fun b => if b = true then f r else g r
theorem pw_imp {t t' : TT} (h : PW X e t) (k : ∀ σ H Q, t' σ H Q → t σ H Q) : PW X e t' := ⟨fun w pins s σ H Q I q => h.run w pins s σ H Q I (k σ H Q q)⟩
theorem dw_and1 (ha : PT X a (tT c G t1)) : PW X (.BoolOp .And [a] pos) (tT c G t1) := pw_and1 ha
theorem dw_or1 (ha : PT X a (tT c G t1)) : PW X (.BoolOp .Or [a] pos) (tT c G t1) := pw_or1 ha
theorem dw_and (ha : PT X a (tT c G t1)) (hb : PW X (.BoolOp .And (b :: rest) pos) (tT c G t2)) : PW X (.BoolOp .And (a :: b :: rest) pos) (tT c G (dAnd t1 t2)) := pw_imp (pw_and ha hb) fun σ H Q ⟨S0, H0, S, r, ok, p⟩ =>
  rd_seq ok p fun x v S1 H1 w1 o1 m1 p1 => by
    rw [show v = x from m1]
    cases x with
    | true => exact ⟨S0, H0, S1, r, o1, p1⟩
    | false => exact p1.go o1.ex _ rfl
theorem dw_or (ha : PT X a (tT c G t1)) (hb : PW X (.BoolOp .Or (b :: rest) pos) (tT c G t2)) : PW X (.BoolOp .Or (a :: b :: rest) pos) (tT c G (dOr t1 t2)) := pw_imp (pw_or ha hb) fun σ H Q ⟨S0, H0, S, r, ok, p⟩ =>
  rd_seq ok p fun x v S1 H1 w1 o1 m1 p1 => by
    rw [show v = x from m1]
    cases x with
    | true => exact p1.go o1.ex _ rfl
    | false => exact ⟨S0, H0, S1, r, o1, p1⟩
theorem dt_not (ha : PT X a (tT c G t1)) : PT X (.UnaryOp .Not a pos) (tT c G (dNot t1)) := pt_imp (pt_not ha) fun σ H Q ⟨S0, H0, S, r, ok, p⟩ =>
  rd_seq ok p fun x v S1 H1 w1 o1 m1 p1 => by
    rw [show v = x from m1]
    exact p1.go o1.ex _ rfl
theorem de_ifx {R : Md V D} [Anti R] {cnd : Expr} (hc : PT X cnd (tT c G t1)) (ha : PE X a (rd c G f1 R)) (hb : PE X b (rd c G f2 R)) : PE X (.IfExp cnd a b pos) (rd c G (dIf t1 f1 f2) R) := pe_imp (pe_ifExp hc ha hb) fun σ H Q ⟨S0, H0, S, r, ok, p⟩ =>
  rd_seq ok p fun x v S1 H1 w1 o1 m1 p1 => by
    rw [show v = x from m1]
    cases x with
    | true => exact ⟨S0, H0, S1, r, o1, p1.anti w1.h⟩
    | false => exact ⟨S0, H0, S1, r, o1, p1.anti w1.h⟩
/-- and, or, not as values: all True or False -/
def dAndV (f g : Rho → Res D) : Rho → Res D := fun r => (f r).bind fun x => (asB x).bind fun b => if b = true then g r else .ok (.bl false)
def dOrV (f g : Rho → Res D) : Rho → Res D := fun r => (f r).bind fun x => (asB x).bind fun b => if b = true then .ok (.bl true) else g r
def dNotV (f : Rho → Res D) : Rho → Res D := fun r => (f r).bind fun x => (asB x).bind fun b => .ok (.bl (!b))
end
end Dx

end S_DxB
section S_DxC
set_option Elab.async false
set_option linter.all false
set_option maxRecDepth 100000
set_option maxHeartbeats 2000000
/-! Dx, part C: the operators on data. -/
namespace Dx
open PySem L2

/-! ### data as the library's data -/
mutual
def toPy : D → Option PyData
  | .non => some .none
  | .bl b => some (.bool b)
  | .int i => some (.int i)
  | .str s => some (.str s)
  | .lst ds => (toPyL ds).map .list
  | .fz ds => (toPyL ds).map .list
  | .tup ds => (toPyL ds).map .tuple
  | .dk _ _ => none
  | .dt _ _ => none
  | .obj _ _ _ => none
  | .own _ => none
  | .st _ _ => none
def toPyL : List D → Option (List PyData)
  | [] => some []
  | d :: ds => match toPy d, toPyL ds with
    | some p, some ps => some (p :: ps)
    | _, _ => none
end
section
variable {K : PySem.W.Frag} {cm : CM} {S H : Hp}
mutual
theorem Rp.dp (e : Ex S H) : ∀ {v : V} {d : D} {p : PyData}, Rp K cm S v d → toPy d = some p → Dp K H v p
  | _, .non, _, h, q => by cases h; cases q; exact .non
  | _, .bl _, _, h, q => by cases h; cases q; exact .bl _
  | _, .int _, _, h, q => by cases h; cases q; exact .int _
  | _, .str _, _, h, q => by cases h; cases q; exact .str _
  | _, .lst ds, _, h, q => by
    cases h with | lst a r =>
    rw [toPy] at q
    obtain ⟨ps, h1, rfl⟩ := Option.map_eq_some_iff.mp q
    exact .lst (.inl (.inl (e _ _ a))) (RpA.dp e r h1)
  | _, .fz ds, _, h, q => by
    cases h with | fz a r =>
    rw [toPy] at q
    obtain ⟨ps, h1, rfl⟩ := Option.map_eq_some_iff.mp q
    exact .lst (e.l a) (RpA.dp e r h1)
  | _, .tup ds, _, h, q => by
    cases h with | tup a r =>
    rw [toPy] at q
    obtain ⟨ps, h1, rfl⟩ := Option.map_eq_some_iff.mp q
    exact .tup (e.t a) (RpA.dp e r h1)
  | _, .dk _ _, _, h, q => by cases q
  | _, .dt _ _, _, h, q => by cases q
  | _, .obj _ _ _, _, h, q => by cases q
theorem RpA.dp (e : Ex S H) : ∀ {vs : List V} {ds : List D} {ps : List PyData}, RpA K cm S vs ds → toPyL ds = some ps → DpAll K H vs ps
  | _, [], _, h, q => by cases h; cases q; exact .nil
  | _, d :: ds, _, h, q => by
    cases h with | cons a r =>
    rw [toPyL] at q
    cases h1 : toPy d with
    | none => rw [h1] at q; cases q
    | some p =>
      cases h2 : toPyL ds with
      | none => rw [h1, h2] at q; cases q
      | some ps =>
        rw [h1, h2] at q
        cases q
        exact .cons (Rp.dp e a h1) (RpA.dp e r h2)
end
theorem RpB.dp {v : V} {d : D} {p : PyData} (e : Ex S H) (h : RpB K cm S H v d) (q : toPy d = some p) : Dp K H v p := by
  rcases h with h | ⟨a, ho, rfl, h2, h3⟩
  · exact h.dp e q
  · cases h3 with
    | lst r =>
      rw [toPy] at q
      obtain ⟨ps, h1, rfl⟩ := Option.map_eq_some_iff.mp q
      exact .lst (.inl (.inl h2)) (r.dp e h1)
    | dk _ _ => cases q
    | dt _ _ => cases q
    | obj _ _ _ => cases q
end

/-! ### + - * // % -/
noncomputable def addD : D → D → Res D
  | .int i, .int j => .ok (.int (i + j))
  | .str a, .str b => guard (a.length + b.length ≤ sizeLine) (.ok (.str (a ++ b)))
  | .tup a, .tup b => guard (a.length + b.length ≤ sizeLine) (.ok (.tup (a ++ b)))
  | .lst a, .lst b => guard (a.length + b.length ≤ sizeLine) (.ok (.lst (a ++ b)))
  | _, _ => .bad
def rAddX (K : PySem.W.Frag) : R2 := fun x y H Q => (rI0 (fun i j => .int (i + j))) x y H Q ∨ (∃ i j, x = .str i ∧ y = .str j ∧ i.length + j.length ≤ sizeLine ∧ Q (.str (i ++ j)) H) ∨ rCatA K x y H Q ∨ rCat x y H Q
section
variable {X : Cx} {c : Cf}
theorem or_add : OpR X (binaryOp .Add) (rAddX X.K) := op_add.or (op_add_str.or (op_catA.or op_cat))
theorem PostG.ite {σ : St} {S H : Hp} {α : Type} {p : Prop} [Decidable p] {x : Res α} {k : α → Hp → Hp → Prop} (h : PostG c σ S H (if p then x else .bad) k) : p ∧ PostG c σ S H x k := by
  by_cases hp : p
  · rw [if_pos hp] at h; exact ⟨hp, h⟩
  · rw [if_neg hp] at h; exact h.elim
theorem os_add : OpS c (mV c) (rAddX c.K) addD := by
  intro σ S H x y d e Q ex hx hy p
  unfold addD at p
  split at p
  · cases hx.int; cases hy.int
    exact .inl ⟨_, _, rfl, rfl, p.here ex (.int _)⟩
  · cases hx.str; cases hy.str
    obtain ⟨hl, p⟩ := p.gd
    exact .inr (.inl ⟨_, _, rfl, rfl, hl, p.here ex (.str _)⟩)
  · obtain ⟨q1, xs, rfl, a1, r1, s1⟩ := hx.tup ex
    obtain ⟨q2, ys, rfl, a2, r2, s2⟩ := hy.tup ex
    obtain ⟨hl, p⟩ := p.gd
    refine .inr (.inr (.inl ⟨_, _, xs, ys, rfl, rfl, a1, a2, by rw [r1.length, r2.length]; exact hl, fun h => ?_, fun _ h => ?_, fun _ _ q hq => ?_⟩))
    · subst h; cases r1; exact p.here ex (.tup s2 r2)
    · subst h; cases r2; rw [List.append_nil] at p; exact p.here ex (.tup s1 r1)
    · exact p.laid ex hq (.tup (.inl (.inl upd_same)) ((r1.app r2).mono (Ex.new (ex.nn hq))))
  · obtain ⟨q1, xs, rfl, a1, r1⟩ := hx.list ex
    obtain ⟨q2, ys, rfl, a2, r2⟩ := hy.list ex
    obtain ⟨hl, p⟩ := p.gd
    refine .inr (.inr (.inr ⟨_, _, xs, ys, rfl, rfl, a1, a2, by rw [r1.length, r2.length]; exact hl, fun q hq => ?_⟩))
    exact p.laid ex hq (.lst upd_same ((r1.app r2).mono (Ex.new (ex.nn hq))))
  · exact p.elim
/-- list + list, the new list one's own -/
noncomputable def addL : D → D → Res D
  | .lst a, .lst b => guard (a.length + b.length ≤ sizeLine) (.ok (.lst (a ++ b)))
  | _, _ => .bad
theorem os_addL : OpS c (mO c) rCat addL := by
  intro σ S H x y d e Q ex hx hy p
  unfold addL at p
  split at p
  · obtain ⟨q1, xs, rfl, a1, r1⟩ := hx.list ex
    obtain ⟨q2, ys, rfl, a2, r2⟩ := hy.list ex
    obtain ⟨hl, p⟩ := p.gd
    exact ⟨_, _, xs, ys, rfl, rfl, a1, a2, by rw [r1.length, r2.length]; exact hl, fun q hq => p.kept ex hq (.lst (r1.app r2))⟩
  · exact p.elim
def subD : D → D → Res D
  | .int i, .int j => .ok (.int (i - j))
  | _, _ => .bad
theorem os_sub : OpS c (mV c) (rI0 fun i j => .int (i - j)) subD := by
  intro σ S H x y d e Q ex hx hy p
  unfold subD at p
  split at p
  · cases hx.int; cases hy.int
    exact ⟨_, _, rfl, rfl, p.here ex (.int _)⟩
  · exact p.elim
def smallI (i : Int) : Prop := -(2 ^ 64) < i ∧ i < 2 ^ 64
theorem RpA.rep {K : PySem.W.Frag} {cm : CM} {S : Hp} {vs : List V} {ds : List D} (h : RpA K cm S vs ds) : ∀ n : Nat, RpA K cm S (List.replicate n vs).flatten (List.replicate n ds).flatten
  | 0 => .nil
  | n + 1 => by rw [List.replicate_succ, List.replicate_succ, List.flatten_cons, List.flatten_cons]; exact h.app (RpA.rep h n)
noncomputable def mulD : D → D → Res D
  | .int i, .int j => guard (smallI i ∨ smallI j) (.ok (.int (i * j)))
  | .lst a, .int k => guard (0 ≤ k ∧ k < 2 ^ 60 ∧ a.length * k.toNat ≤ sizeLine) (.ok (.lst (List.replicate k.toNat a).flatten))
  | _, _ => .bad
def rMulX : R2 := fun x y H Q => (rI CMul (fun i j => .int (i * j))) x y H Q ∨ rRep x y H Q
theorem or_mul : OpR X (binaryOp .Mult) rMulX := op_mul.or op_rep
theorem os_mul : OpS c (mV c) rMulX mulD := by
  intro σ S H x y d e Q ex hx hy p
  unfold mulD at p
  split at p
  · cases hx.int; cases hy.int
    obtain ⟨hl, p⟩ := p.gd
    exact .inl ⟨_, _, rfl, rfl, hl, p.here ex (.int _)⟩
  · obtain ⟨q1, xs, rfl, a1, r1⟩ := hx.list ex
    cases hy.int
    obtain ⟨⟨h0, h1, h2⟩, p⟩ := p.gd
    refine .inr ⟨_, _, xs, rfl, rfl, a1, by omega, by omega, by rw [r1.length]; exact h2, fun q hq => ?_⟩
    exact p.laid ex hq (.lst upd_same ((r1.rep _).mono (Ex.new (ex.nn hq))))
  · exact p.elim
noncomputable def fdivD : D → D → Res D
  | .int i, .int j => if 0 < j then guard (j < 4611686018427387904) (.ok (.int (i / j))) else guard (j ≠ 0 ∧ j.natAbs < 1073741824) (.ok (.int (i.fdiv j)))
  | _, _ => .bad
def rFdivX : R2 := fun x y H Q => (rI CDivW (fun i j => .int (i / j))) x y H Q ∨ (rI CDivN (fun i j => .int (i.fdiv j))) x y H Q
theorem or_fdiv : OpR X (binaryOp .FloorDiv) rFdivX := op_fdivW.or op_fdivN
theorem os_fdiv : OpS c (mV c) rFdivX fdivD := by
  intro σ S H x y d e Q ex hx hy p
  unfold fdivD at p
  split at p
  · cases hx.int; cases hy.int
    split at p
    · rename_i h
      obtain ⟨h2, p⟩ := p.gd
      exact .inl ⟨_, _, rfl, rfl, wide_div (b := 62) h (by omega) (by decide) (by decide), p.here ex (.int _)⟩
    · obtain ⟨h, p⟩ := p.gd
      exact .inr ⟨_, _, rfl, rfl, h, p.here ex (.int _)⟩
  · exact p.elim
noncomputable def modD : D → D → Res D
  | .int i, .int j => guard (0 < j) (.ok (.int (i % j)))
  | _, _ => .bad
theorem os_mod : OpS c (mV c) (rI (fun _ j => 0 < j) fun i j => .int (i % j)) modD := by
  intro σ S H x y d e Q ex hx hy p
  unfold modD at p
  split at p
  · cases hx.int; cases hy.int
    obtain ⟨h, p⟩ := p.gd
    exact ⟨_, _, rfl, rfl, h, p.here ex (.int _)⟩
  · exact p.elim
def intsD (g : Int → Int → Int) : D → D → Res D
  | .int i, .int j => .ok (.int (g i j))
  | _, _ => .bad
theorem os_ints {g : Int → Int → Int} : OpS c (mV c) (rI0 fun i j => .int (g i j)) (intsD g) := by
  intro σ S H x y d e Q ex hx hy p
  unfold intsD at p
  split at p
  · cases hx.int; cases hy.int
    exact ⟨_, _, rfl, rfl, p.here ex (.int _)⟩
  · exact p.elim

/-! ### comparisons -/
def eqFlat : D → D → Option Bool
  | .int i, .int j => some (decide (i = j))
  | .str a, .str b => some (decide (a = b))
  | .bl a, .bl b => some (decide (a = b))
  | .non, .non => some true
  | .non, .int _ => some false
  | .non, .bl _ => some false
  | .non, .str _ => some false
  | .int _, .non => some false
  | .bl _, .non => some false
  | .str _, .non => some false
  | .int _, .str _ => some false
  | .str _, .int _ => some false
  | .bl _, .str _ => some false
  | .str _, .bl _ => some false
  | _, _ => none
def eqDeep (d e : D) : Res Bool := match toPy d, toPy e with
  | some p, some q => if SeqAt.shaped p = true ∧ SeqAt.shaped q = true then .ok (PyData.eqv p q) else .bad
  | _, _ => .bad
def eqB (d e : D) : Res Bool := match eqFlat d e with
  | some b => .ok b
  | none => eqDeep d e
def eqD (d e : D) : Res D := (eqB d e).bind fun b => .ok (.bl b)
def neD (d e : D) : Res D := (eqB d e).bind fun b => .ok (.bl (!b))
theorem of_eqDeep {σ : St} {S H : Hp} {x y : V} {d e : D} {g : Bool → Res D} {k : D → Hp → Hp → Prop} (ex : Ex S H) (hx : RpB c.K c.cm S H x d) (hy : RpB c.K c.cm S H y e) (p : PostG c σ S H ((eqDeep d e).bind g) k) :
    ∃ u v, Dp c.K H x u ∧ Dp c.K H y v ∧ SeqAt.shaped u = true ∧ SeqAt.shaped v = true ∧ PostG c σ S H (g (PyData.eqv u v)) k := by
  unfold eqDeep at p
  split at p
  · rename_i u v h1 h2
    by_cases hs : SeqAt.shaped u = true ∧ SeqAt.shaped v = true
    · rw [if_pos hs] at p
      exact ⟨u, v, hx.dp ex h1, hy.dp ex h2, hs.1, hs.2, p⟩
    · rw [if_neg hs] at p
      exact p.elim
  · exact p.elim
theorem of_eqFlat {S H : Hp} {x y : V} {d e : D} {b : Bool} (hx : RpB c.K c.cm S H x d) (hy : RpB c.K c.cm S H y e) (h : eqFlat d e = some b) : scal x y = true ∧ decide (x = y) = b := by
  unfold eqFlat at h
  split at h
  · cases hx.int; cases hy.int; cases h; exact ⟨rfl, by simp⟩
  · cases hx.str; cases hy.str; cases h; exact ⟨rfl, by simp⟩
  · cases hx.bl; cases hy.bl; cases h; exact ⟨rfl, by simp⟩
  · cases hx.non; cases hy.non; cases h; exact ⟨rfl, rfl⟩
  · cases hx.non; cases hy.int; cases h; exact ⟨rfl, rfl⟩
  · cases hx.non; cases hy.bl; cases h; exact ⟨rfl, rfl⟩
  · cases hx.non; cases hy.str; cases h; exact ⟨rfl, rfl⟩
  · cases hx.int; cases hy.non; cases h; exact ⟨rfl, rfl⟩
  · cases hx.bl; cases hy.non; cases h; exact ⟨rfl, rfl⟩
  · cases hx.str; cases hy.non; cases h; exact ⟨rfl, rfl⟩
  · cases hx.int; cases hy.str; cases h; exact ⟨rfl, rfl⟩
  · cases hx.str; cases hy.int; cases h; exact ⟨rfl, rfl⟩
  · cases hx.bl; cases hy.str; cases h; exact ⟨rfl, rfl⟩
  · cases hx.str; cases hy.bl; cases h; exact ⟨rfl, rfl⟩
  · cases h
def rEqX (K : PySem.W.Frag) : R2 := fun x y H Q => rEq x y H Q ∨ rEqD K x y H Q
def rNeX (K : PySem.W.Frag) : R2 := fun x y H Q => rNe x y H Q ∨ rNeD K x y H Q
theorem or_eq (hu : X.A.units + 64 < cLine) : OpR X (compareOp .Eq) (rEqX X.K) := op_eq.or (op_eqD hu)
theorem or_ne (hu : X.A.units + 64 < cLine) : OpR X (compareOp .NotEq) (rNeX X.K) := op_ne.or (op_neD hu)
theorem os_eq : OpS c (mV c) (rEqX c.K) eqD := by
  intro σ S H x y d e Q ex hx hy p
  unfold eqD eqB at p
  split at p
  · rename_i b hb
    obtain ⟨h1, h2⟩ := of_eqFlat hx hy hb
    refine .inl ⟨h1, ?_⟩
    rw [h2]; exact p.here ex (.bl _)
  · obtain ⟨u, v, h1, h2, h3, h4, p⟩ := of_eqDeep ex hx hy p
    exact .inr ⟨u, v, h1, h2, h3, h4, p.here ex (.bl _)⟩
theorem os_ne : OpS c (mV c) (rNeX c.K) neD := by
  intro σ S H x y d e Q ex hx hy p
  unfold neD eqB at p
  split at p
  · rename_i b hb
    obtain ⟨h1, h2⟩ := of_eqFlat hx hy hb
    refine .inl ⟨h1, ?_⟩
    rw [h2]; exact p.here ex (.bl _)
  · obtain ⟨u, v, h1, h2, h3, h4, p⟩ := of_eqDeep ex hx hy p
    exact .inr ⟨u, v, h1, h2, h3, h4, p.here ex (.bl _)⟩
/-- by ints, by texts -/
def ordD (g : Int → Int → Bool) (h : Str → Str → Bool) : D → D → Res D
  | .int i, .int j => .ok (.bl (g i j))
  | .str a, .str b => .ok (.bl (h a b))
  | _, _ => .bad
def rOrd (g : Int → Int → Bool) (h : Str → Str → Bool) : R2 := fun x y H Q => (rI0 fun i j => .bl (g i j)) x y H Q ∨ ∃ i j, x = .str i ∧ y = .str j ∧ Q (.bl (h i j)) H
theorem os_ord {g : Int → Int → Bool} {h : Str → Str → Bool} : OpS c (mV c) (rOrd g h) (ordD g h) := by
  intro σ S H x y d e Q ex hx hy p
  unfold ordD at p
  split at p
  · cases hx.int; cases hy.int
    exact .inl ⟨_, _, rfl, rfl, p.here ex (.bl _)⟩
  · cases hx.str; cases hy.str
    exact .inr ⟨_, _, rfl, rfl, p.here ex (.bl _)⟩
  · exact p.elim
abbrev sLt (i j : Str) : Bool := decide (i.cps.toList < j.cps.toList)
abbrev ltD : D → D → Res D := ordD (fun i j => decide (i < j)) fun i j => decide (i.cps.toList < j.cps.toList)
abbrev leD : D → D → Res D := ordD (fun i j => decide (i ≤ j)) fun i j => !decide (j.cps.toList < i.cps.toList)
abbrev gtD : D → D → Res D := ordD (fun i j => decide (j < i)) fun i j => decide (j.cps.toList < i.cps.toList)
abbrev geD : D → D → Res D := ordD (fun i j => decide (j ≤ i)) fun i j => !decide (i.cps.toList < j.cps.toList)
theorem or_lt : OpR X (compareOp .Lt) (rOrd (fun i j => decide (i < j)) fun i j => decide (i.cps.toList < j.cps.toList)) := op_lt.or op_lt_str
theorem or_le : OpR X (compareOp .LtE) (rOrd (fun i j => decide (i ≤ j)) fun i j => !decide (j.cps.toList < i.cps.toList)) := op_le.or op_le_str
theorem or_gt : OpR X (compareOp .Gt) (rOrd (fun i j => decide (j < i)) fun i j => decide (j.cps.toList < i.cps.toList)) := op_gt.or op_gt_str
theorem or_ge : OpR X (compareOp .GtE) (rOrd (fun i j => decide (j ≤ i)) fun i j => !decide (i.cps.toList < j.cps.toList)) := op_ge.or op_ge_str
/-- is None, is not None -/
def isN : D → Bool
  | .non => true
  | _ => false
def isD (neg : Bool) (d e : D) : Res D := if isN e = true then .ok (.bl (if neg then !isN d else isN d)) else .bad
theorem RpB.isN {K : PySem.W.Frag} {cm : CM} {S H : Hp} {v : V} {d : D} (h : RpB K cm S H v d) : decide (v = .non) = isN d := by
  rcases h with h | ⟨p, ho, rfl, h2, h3⟩
  · cases h <;> rfl
  · cases h3 <;> rfl
theorem os_is : OpS c (mV c) (fun x y H Q => y = .non ∧ Q (.bl (decide (x = .non))) H) (isD false) := by
  intro σ S H x y d e Q ex hx hy p
  obtain ⟨h, p⟩ := p.ite
  rw [hx.isN]
  refine ⟨of_decide_eq_true (hy.isN.trans h), p.here ex (.bl _)⟩
theorem os_isnot : OpS c (mV c) (fun x y H Q => y = .non ∧ Q (.bl (!decide (x = .non))) H) (isD true) := by
  intro σ S H x y d e Q ex hx hy p
  obtain ⟨h, p⟩ := p.ite
  rw [hx.isN]
  refine ⟨of_decide_eq_true (hy.isN.trans h), p.here ex (.bl _)⟩
/-- x in: a list of data, a text in a text, a flat thing in a tuple of flat things -/
def flatD : D → Option V
  | .non => some .non
  | .bl b => some (.bl b)
  | .int i => some (.int i)
  | .str s => some (.str s)
  | _ => none
def flatDs : List D → Option (List V)
  | [] => some []
  | d :: ds => match flatD d, flatDs ds with
    | some v, some vs => some (v :: vs)
    | _, _ => none
def inDeep (d : D) (ds : List D) : Res Bool := match toPy d, toPyL ds with
  | some p, some ps => if SeqAt.shaped p = true ∧ SeqAt.shaped (.list ps) = true then .ok (ps.any fun z => PyData.eqv z p) else .bad
  | _, _ => .bad
def inFlat (d : D) (ds : List D) : Option Bool := match flatD d, flatDs ds with
  | some v, some vs => some (inV v vs)
  | _, _ => none
def inLst (d : D) (ds : List D) : Res Bool := match inFlat d ds with
  | some b => .ok b
  | none => inDeep d ds
def inTup (d : D) (ds : List D) : Res Bool := match inFlat d ds with
  | some b => .ok b
  | none => .bad
def inStr (a b : Str) : Bool := match a.cps.toList with
  | [n] => decide (n ∈ b.cps.toList)
  | _ => !(Builtin.Str.occurrences b a 0 b.length 1).isEmpty
def inB : D → D → Res Bool
  | d, .lst ds => inLst d ds
  | d, .fz ds => inLst d ds
  | d, .tup ds => inTup d ds
  | .str a, .str b => .ok (inStr a b)
  | _, _ => .bad
def inD (d e : D) : Res D := (inB d e).bind fun b => .ok (.bl b)
def ninD (d e : D) : Res D := (inB d e).bind fun b => .ok (.bl (!b))
theorem RpB.flat {K : PySem.W.Frag} {cm : CM} {S H : Hp} {v u : V} {d : D} (h : RpB K cm S H v d) (q : flatD d = some u) : v = u ∧ flatV u = true := by
  rcases h with h | ⟨p, ho, rfl, h2, h3⟩
  · cases h <;> first | (cases q; exact ⟨rfl, rfl⟩) | cases q
  · cases h3 <;> cases q
theorem RpA.flat {K : PySem.W.Frag} {cm : CM} {S : Hp} : ∀ {vs us : List V} {ds : List D}, RpA K cm S vs ds → flatDs ds = some us → vs = us ∧ us.all flatV = true
  | _, _, [], h, q => by cases h; cases q; exact ⟨rfl, rfl⟩
  | _, _, d :: ds, h, q => by
    cases h with | cons a r =>
    rw [flatDs] at q
    cases h1 : flatD d with
    | none => rw [h1] at q; cases q
    | some u =>
      cases h2 : flatDs ds with
      | none => rw [h1, h2] at q; cases q
      | some us =>
        rw [h1, h2] at q
        cases q
        obtain ⟨rfl, z1⟩ := RpB.flat (H := S) (.inl a) h1
        obtain ⟨rfl, z2⟩ := RpA.flat r h2
        exact ⟨rfl, by simp [z1, z2]⟩
def rInX (K : PySem.W.Frag) (neg : Bool) : R2 := fun x y H Q => (∃ d ds, Dp K H x d ∧ Dp K H y (.list ds) ∧ SeqAt.shaped d = true ∧ SeqAt.shaped (.list ds) = true ∧ Q (.bl (if neg then !ds.any fun z => PyData.eqv z d else ds.any fun z => PyData.eqv z d)) H) ∨
  rIn K neg x y H Q ∨ (∃ i j, x = .str i ∧ y = .str j ∧ Q (.bl (if neg then !(!(Builtin.Str.occurrences j i 0 j.length 1).isEmpty) else !(Builtin.Str.occurrences j i 0 j.length 1).isEmpty)) H) ∨
  ∃ (n : Nat) (z : Str), x = .str ⟨#[n]⟩ ∧ y = .str z ∧ Q (.bl (if neg then !decide (n ∈ z.cps.toList) else decide (n ∈ z.cps.toList))) H
theorem or_in (hu : X.A.units + 65 < cLine) : OpR X (compareOp .In) (rInX X.K false) := (op_inD hu).or (op_in_seq.or (op_in_str.or op_in_sign))
theorem or_nin (hu : X.A.units + 65 < cLine) : OpR X (compareOp .NotIn) (rInX X.K true) := (op_notInD hu).or (op_notIn_seq.or (op_notIn_str.or op_notIn_sign))
theorem of_inFlat {S H : Hp} {x : V} {d : D} {xs : List V} {ds : List D} {b : Bool} (hx : RpB c.K c.cm S H x d) (r1 : RpA c.K c.cm S xs ds) (h : inFlat d ds = some b) : flatV x = true ∧ xs.all flatV = true ∧ inV x xs = b := by
  unfold inFlat at h
  split at h
  · rename_i v vs h1 h2
    obtain ⟨rfl, z1⟩ := hx.flat h1
    obtain ⟨rfl, z2⟩ := r1.flat h2
    cases h
    exact ⟨z1, z2, rfl⟩
  · cases h
theorem of_inLst {σ : St} {S H : Hp} {x y : V} {d : D} {ds : List D} {neg : Bool} {Q : VK} {q : Addr} {xs : List V} (ex : Ex S H) (hx : RpB c.K c.cm S H x d) (hy : y = .ref q) (a1 : SqL c.K H q xs) (r1 : RpA c.K c.cm S xs ds) (hd : ∀ ps, toPyL ds = some ps → Dp c.K H y (.list ps))
    (p : PostG c σ S H ((inLst d ds).bind fun b => .ok (.bl (if neg then !b else b))) fun a S' H' => ∀ b, mV c H S' H' b a → Q b H') : rInX c.K neg x y H Q := by
  unfold inLst at p
  split at p
  · rename_i b hb
    obtain ⟨z1, z2, z3⟩ := of_inFlat hx r1 hb
    refine .inr (.inl ⟨q, xs, hy, .inl a1, z1, z2, ?_⟩)
    rw [z3]; exact p.here ex (.bl _)
  · unfold inDeep at p
    split at p
    · rename_i p' ps h1 h2
      by_cases hs : SeqAt.shaped p' = true ∧ SeqAt.shaped (.list ps) = true
      · rw [if_pos hs] at p
        exact .inl ⟨p', ps, hx.dp ex h1, hd ps h2, hs.1, hs.2, p.here ex (.bl _)⟩
      · rw [if_neg hs] at p; exact p.elim
    · exact p.elim
theorem of_inB {σ : St} {S H : Hp} {x y : V} {d e : D} {neg : Bool} {Q : VK} (ex : Ex S H) (hx : RpB c.K c.cm S H x d) (hy : RpB c.K c.cm S H y e)
    (p : PostG c σ S H ((inB d e).bind fun b => .ok (.bl (if neg then !b else b))) fun a S' H' => ∀ b, mV c H S' H' b a → Q b H') : rInX c.K neg x y H Q := by
  unfold inB at p
  split at p
  · obtain ⟨q, xs, hq, a1, r1⟩ := hy.list ex
    exact of_inLst ex hx hq (.inl (.inl a1)) r1 (fun ps h => hy.dp ex (by rw [toPy, h]; rfl)) p
  · obtain ⟨q, xs, hq, a1, r1⟩ := hy.fz ex
    exact of_inLst ex hx hq a1 r1 (fun ps h => hy.dp ex (by rw [toPy, h]; rfl)) p
  · unfold inTup at p
    split at p
    · rename_i b hb
      obtain ⟨q, xs, rfl, a1, r1, s1⟩ := hy.tup ex
      obtain ⟨z1, z2, z3⟩ := of_inFlat hx r1 hb
      refine .inr (.inl ⟨q, xs, rfl, .inr a1, z1, z2, ?_⟩)
      rw [z3]; exact p.here ex (.bl _)
    · exact p.elim
  · rename_i a b
    cases hx.str; cases hy.str
    unfold inStr at p
    split at p
    · rename_i n hn
      have ha : a = ⟨#[n]⟩ := Str.ext' (Array.toList_inj.mp (by rw [hn]))
      exact .inr (.inr (.inr ⟨n, b, by rw [ha], rfl, p.here ex (.bl _)⟩))
    · exact .inr (.inr (.inl ⟨_, _, rfl, rfl, p.here ex (.bl _)⟩))
  · exact p.elim
theorem os_in : OpS c (mV c) (rInX c.K false) inD := fun σ S H x y d e Q ex hx hy p => of_inB (neg := false) ex hx hy p
theorem os_nin : OpS c (mV c) (rInX c.K true) ninD := fun σ S H x y d e Q ex hx hy p => of_inB (neg := true) ex hx hy p
end
end Dx

end S_DxC
section S_DxD
set_option Elab.async false
set_option linter.all false
set_option maxRecDepth 100000
set_option maxHeartbeats 2000000
/-! Dx, part D: argument lists, displays, built-ins, subscripts, slices. -/
namespace Dx
open PySem L2
section
variable {X : Cx} {c : Cf} {G : List Ow} {f f1 f2 f3 : Rho → Res D} {a b e : Expr} {es : List Expr} {pos p : Pos} {fs : Rho → Res (List D)}
/-! ### chains, minus -/
def dChain (g g' : D → D → Res D) (f1 f2 f3 : Rho → Res D) : Rho → Res D := fun r => (f1 r).bind fun x => (f2 r).bind fun y => (g x y).bind fun z => (asB z).bind fun k => if k = true then (f3 r).bind fun w => g' y w else .ok (.bl false)
theorem chain_rd {r2 r2' : R2} {g g' : D → D → Res D} (hs : OpS c (mV c) r2 g) (hs' : OpS c (mV c) r2' g') : ∀ σ H Q, tV c G (dChain g g' f1 f2 f3) σ H Q → tChain r2 r2' (tR c G f1) (tR c G f2) (tR c G f3) σ H Q := fun σ H Q ⟨S0, H0, S, r, ok, p⟩ =>
  rd_seq ok p fun x v S1 H1 w1 o1 m1 p1 => rd_seq o1 p1 fun y u S2 H2 w2 o2 m2 p2 => hs σ S2 H2 v u x y _ o2.ex (RpB.mono m1 w2.s w2.h) m2 (p2.unbind.imp fun z S3 H3 w3 p3 bz hz => by
    obtain ⟨k, rfl, q3⟩ := of_asB (PostG.imp p3.unbind fun _ _ _ _ h => h)
    cases hz
    refine ⟨k, rfl, ?_⟩
    have o3 := o2.go w3
    have p4 := q3.go o3.ex
    cases k with
    | true => exact rd_seq o3 p4 fun w u' S4 H4 w4 o4 m4 p5 => hs' σ S4 H4 u u' y w Q o4.ex (RpB.mono m2 (w3.s.trans w4.s) (w3.h.trans w4.h)) m4 p5
    | false => exact p4.go o3.ex _ (.bl _))
theorem de_chain {op op' : CmpOp} {r2 r2' : R2} {g g' : D → D → Res D} {e3 : Expr} (ho : OpR X (compareOp op) r2) (hs : OpS c (mV c) r2 g) (ho' : OpR X (compareOp op') r2') (hs' : OpS c (mV c) r2' g') (ha : PE X a (tR c G f1)) (hb : PE X b (tR c G f2)) (hc : PE X e3 (tR c G f3))
    (hm : lastMarks [op, op'] [b, e3] = false := by with_unfolding_all rfl) : PE X (.Compare a [op, op'] [b, e3] pos) (tV c G (dChain g g' f1 f2 f3)) := pe_imp (pe_chain ho ho' ha hb hc hm) (chain_rd hs hs')
theorem dt_chain {op op' : CmpOp} {r2 r2' : R2} {g g' : D → D → Res D} {e3 : Expr} (ho : OpR X (compareOp op) r2) (hs : OpS c (mV c) r2 g) (ho' : OpR X (compareOp op') r2') (hs' : OpS c (mV c) r2' g') (ha : PE X a (tR c G f1)) (hb : PE X b (tR c G f2)) (hc : PE X e3 (tR c G f3))
    (hm : lastMarks [op, op'] [b, e3] = false := by with_unfolding_all rfl) : PT X (.Compare a [op, op'] [b, e3] pos) (tT c G (dT (dChain g g' f1 f2 f3))) := pt_imp (pt_chain ho ho' ha hb hc hm) fun σ H Q ⟨S0, H0, S, r, ok, p⟩ => by
  refine chain_rd (G := G) hs hs' σ H _ (rd_seq ok p fun d v S1 H1 w1 o1 m1 p1 => ?_)
  obtain ⟨b, rfl, p1⟩ := of_asB p1
  cases m1
  exact ⟨b, rfl, p1.go o1.ex _ rfl⟩
def negD : D → Res D
  | .int i => .ok (.int (-i))
  | _ => .bad
def dUn (g : D → Res D) (f : Rho → Res D) : Rho → Res D := fun r => (f r).bind g
theorem de_neg (ha : PE X a (tV c G f)) : PE X (.UnaryOp .USub a pos) (tV c G (dUn negD f)) := pe_imp (pe_un un_neg ha) fun σ H Q ⟨S0, H0, S, r, ok, p⟩ => rd_seq ok p fun d v S1 H1 w1 o1 m1 p1 => by
  cases d with
  | int i => cases m1; exact ⟨i, rfl, p1.go o1.ex _ (.int _)⟩
  | _ => exact p1.elim
theorem de_one {op : BoolOp} (h : PE X a (tV c G f)) : PE X (.BoolOp op [a] pos) (tV c G f) := pe_one h
theorem de_and {rest : List Expr} (ha : PE X a (tV c G f1)) (hb : PE X (.BoolOp .And (b :: rest) pos) (tV c G f2)) : PE X (.BoolOp .And (a :: b :: rest) pos) (tV c G (dAndV f1 f2)) := pe_imp (pe_and ha hb) fun σ H Q ⟨S0, H0, S, r, ok, p⟩ =>
  rd_seq ok p fun d v S1 H1 w1 o1 m1 p1 => by
    obtain ⟨k, rfl, q1⟩ := of_asB (p1.unbind)
    cases m1
    refine ⟨k, rfl, ?_⟩
    have p2 := q1.go o1.ex
    cases k with
    | true => exact ⟨S0, H0, S1, r, o1, p2⟩
    | false => exact p2.go o1.ex _ (.bl _)
theorem de_or {rest : List Expr} (ha : PE X a (tV c G f1)) (hb : PE X (.BoolOp .Or (b :: rest) pos) (tV c G f2)) : PE X (.BoolOp .Or (a :: b :: rest) pos) (tV c G (dOrV f1 f2)) := pe_imp (pe_or ha hb) fun σ H Q ⟨S0, H0, S, r, ok, p⟩ =>
  rd_seq ok p fun d v S1 H1 w1 o1 m1 p1 => by
    obtain ⟨k, rfl, q1⟩ := of_asB (p1.unbind)
    cases m1
    refine ⟨k, rfl, ?_⟩
    have p2 := q1.go o1.ex
    cases k with
    | true => exact p2.go o1.ex _ (.bl _)
    | false => exact ⟨S0, H0, S1, r, o1, p2⟩
theorem de_not (ha : PE X a (tV c G f)) : PE X (.UnaryOp .Not a pos) (tV c G (dNotV f)) := pe_imp (pe_not ha) fun σ H Q ⟨S0, H0, S, r, ok, p⟩ =>
  rd_seq ok p fun d v S1 H1 w1 o1 m1 p1 => by
    obtain ⟨k, rfl, q1⟩ := of_asB (p1.unbind)
    cases m1
    exact ⟨k, rfl, (q1.go o1.ex).go o1.ex _ (.bl _)⟩
/-! ### argument lists -/
def dNil : Rho → Res (List D) := fun _ => .ok []
def dCons (f : Rho → Res D) (g : Rho → Res (List D)) : Rho → Res (List D) := fun r => (f r).bind fun x => (g r).bind fun xs => .ok (x :: xs)
/-- with a mode for each: true, a thing that is only read -/
def RpM (c : Cf) (S H : Hp) : List Bool → List V → List D → Prop
  | [], [], [] => True
  | true :: ms, v :: vs, d :: ds => RpB c.K c.cm S H v d ∧ RpM c S H ms vs ds
  | false :: ms, v :: vs, d :: ds => Rp c.K c.cm S v d ∧ RpM c S H ms vs ds
  | _, _, _ => False
theorem RpM.mono {S H S' H' : Hp} (e : Ex S S') (e' : Ex H H') : ∀ {ms : List Bool} {vs : List V} {ds : List D}, RpM c S H ms vs ds → RpM c S' H' ms vs ds
  | [], [], [], _ => trivial
  | true :: ms, v :: vs, d :: ds, h => ⟨h.1.mono e e', RpM.mono e e' h.2⟩
  | false :: ms, v :: vs, d :: ds, h => ⟨h.1.mono e, RpM.mono e e' h.2⟩
  | [], _ :: _, _, h => h.elim
  | [], [], _ :: _, h => h.elim
  | true :: _, [], _, h => h.elim
  | true :: _, _ :: _, [], h => h.elim
  | false :: _, [], _, h => h.elim
  | false :: _, _ :: _, [], h => h.elim
def mM (c : Cf) (ms : List Bool) : Md (List V) (List D) := fun _ S' H' vs ds => RpM c S' H' ms vs ds
instance {ms : List Bool} : Anti (mM c ms) := ⟨fun _ h => h⟩
abbrev tM (c : Cf) (G : List Ow) (ms : List Bool) (f : Rho → Res (List D)) : TA := rd c G f (mM c ms)
theorem dm_nil : PA X [] (tM c G [] dNil) := pa_imp pa_nil fun σ H Q ⟨S0, H0, S, r, ok, p⟩ => p.go ok.ex _ trivial
theorem dm_bor {ms : List Bool} (ha : PE X e (tR c G f)) (hr : PA X es (tM c G ms fs)) (hs : starEach (e :: es) X.env = (false, eval e X.env) :: starEach es X.env := by rfl) : PA X (e :: es) (tM c G (true :: ms) (dCons f fs)) :=
  pa_imp (pa_cons ha hr hs) fun σ H Q ⟨S0, H0, S, r, ok, p⟩ => rd_seq ok p fun x v S1 H1 w1 o1 m1 p1 => rd_seq o1 p1 fun xs vs S2 H2 w2 o2 m2 p2 => p2.go o2.ex _ ⟨RpB.mono m1 w2.s w2.h, m2⟩
theorem dm_val {ms : List Bool} (ha : PE X e (tV c G f)) (hr : PA X es (tM c G ms fs)) (hs : starEach (e :: es) X.env = (false, eval e X.env) :: starEach es X.env := by rfl) : PA X (e :: es) (tM c G (false :: ms) (dCons f fs)) :=
  pa_imp (pa_cons ha hr hs) fun σ H Q ⟨S0, H0, S, r, ok, p⟩ => rd_seq ok p fun x v S1 H1 w1 o1 m1 p1 => rd_seq o1 p1 fun xs vs S2 H2 w2 o2 m2 p2 => p2.go o2.ex _ ⟨Rp.mono w2.s m1, m2⟩
theorem da_nil : PA X [] (tAs c G dNil) := pa_imp pa_nil fun σ H Q ⟨S0, H0, S, r, ok, p⟩ => p.go ok.ex _ .nil
theorem da_cons (ha : PE X e (tV c G f)) (hr : PA X es (tAs c G fs)) (hs : starEach (e :: es) X.env = (false, eval e X.env) :: starEach es X.env := by rfl) : PA X (e :: es) (tAs c G (dCons f fs)) :=
  pa_imp (pa_cons ha hr hs) fun σ H Q ⟨S0, H0, S, r, ok, p⟩ => rd_seq ok p fun x v S1 H1 w1 o1 m1 p1 => rd_seq o1 p1 fun xs vs S2 H2 w2 o2 m2 p2 => p2.go o2.ex _ (.cons (Rp.mono w2.s m1) m2)
/-! ### displays -/
noncomputable def mkTup (ds : List D) : Res D := guard (ds.length ≤ sizeLine) (.ok (.tup ds))
noncomputable def mkLst (ds : List D) : Res D := guard (ds.length ≤ sizeLine) (.ok (.lst ds))
noncomputable def dTup (g : Rho → Res (List D)) : Rho → Res D := fun r => (g r).bind mkTup
noncomputable def dLst (g : Rho → Res (List D)) : Rho → Res D := fun r => (g r).bind mkLst
theorem de_tup {k : Nat} (h : PA X es (tAs c G fs)) : PE X (.Tuple es k pos) (tV c G (dTup fs)) := pe_imp (pe_tup h) fun σ H Q ⟨S0, H0, S, r, ok, p⟩ => rd_seq ok p fun ds vs S1 H1 w1 o1 m1 p1 => by
  obtain ⟨hl, p1⟩ := p1.gd
  exact ⟨by rw [RpA.length m1]; exact hl, fun q hq => p1.laid o1.ex hq (.tup (.inl (.inl upd_same)) (RpA.mono (Ex.new (o1.ex.nn hq)) m1))⟩
theorem de_lst (h : PA X es (tAs c G fs)) : PE X (.List es pos) (tO c G (dLst fs)) := pe_imp (pe_lst h) fun σ H Q ⟨S0, H0, S, r, ok, p⟩ => rd_seq ok p fun ds vs S1 H1 w1 o1 m1 p1 => by
  obtain ⟨hl, p1⟩ := p1.gd
  exact ⟨by rw [RpA.length m1]; exact hl, fun q hq => (p1.anti w1.h).kept o1.ex hq (.lst m1)⟩
/-! ### built-in functions and types, by data -/
def CallS (c : Cf) (R : Md V D) (r : List V → Hp → VK → Prop) (ms : List Bool) (g : List D → Res D) : Prop := ∀ (σ : St) (S H : Hp) (vs : List V) (ds : List D) (Q : VK), Ex S H → RpM c S H ms vs ds →
  PostG c σ S H (g ds) (fun a S' H' => ∀ b, R H S' H' b a → Q b H') → r vs H Q
def dCall (g : List D → Res D) (fs : Rho → Res (List D)) : Rho → Res D := fun r => (fs r).bind g
theorem de_bltn {R : Md V D} [Anti R] {x : Str} {id : String} {ms : List Bool} {r : List V → Hp → VK → Prop} {g : List D → Res D} (hc : CallR X (.builtin id) r) (hs : CallS c R r ms g) (hg : Gl X x) (hm : X.mg x = none) (hv : bootBuiltins x = some (.builtin id)) (ha : PA X (e :: es) (tM c G ms fs))
    (hn : x ≠ "__name__" := by decide) (hdb : (x == ("__debug__" : Str)) = false := by decide) (he : starEach (e :: es) X.env = (false, eval e X.env) :: starEach es X.env := by rfl) (hpl : (backTo pos (starEach es X.env)).any (·.1) = false := by rfl) :
    PE X (.Call (.Name x p) (e :: es) [] pos) (rd c G (dCall g fs) R) := pe_imp (pe_callB hc hg hm hv ha hn hdb he hpl) fun σ H Q ⟨S0, H0, S, r, ok, p⟩ => rd_seq ok p fun ds vs S1 H1 w1 o1 m1 p1 => hs σ S1 H1 vs ds Q o1.ex m1 (p1.anti w1.h)
theorem de_type {R : Md V D} [Anti R] {x : Str} {T : String} {ms : List Bool} {r : List V → Hp → VK → Prop} {g : List D → Res D} (hc : CallR X (.type T) r) (hs : CallS c R r ms g) (hg : Gl X x) (hm : X.mg x = none) (hv : bootBuiltins x = some (.type T)) (ha : PA X (e :: es) (tM c G ms fs))
    (hn : x ≠ "__name__" := by decide) (hdb : (x == ("__debug__" : Str)) = false := by decide) (he : starEach (e :: es) X.env = (false, eval e X.env) :: starEach es X.env := by rfl) (hpl : (backTo pos (starEach es X.env)).any (·.1) = false := by rfl) :
    PE X (.Call (.Name x p) (e :: es) [] pos) (rd c G (dCall g fs) R) := pe_imp (pe_callTy hc hg hm hv ha hn hdb he hpl) fun σ H Q ⟨S0, H0, S, r, ok, p⟩ => rd_seq ok p fun ds vs S1 H1 w1 o1 m1 p1 => hs σ S1 H1 vs ds Q o1.ex m1 (p1.anti w1.h)
theorem RpM.one {S H : Hp} {vs : List V} {ds : List D} (h : RpM c S H [true] vs ds) : ∃ v d, vs = [v] ∧ ds = [d] ∧ RpB c.K c.cm S H v d := by
  match vs, ds, h with
  | [v], [d], h => exact ⟨v, d, rfl, rfl, h.1⟩
  | _ :: _ :: _, [_], h => exact h.2.elim
  | [_], _ :: _ :: _, h => exact h.2.elim
  | _ :: _ :: _, _ :: _ :: _, h => exact h.2.elim
  | [], _, h => exact h.elim
  | _ :: _, [], h => exact h.elim
theorem RpM.two {S H : Hp} {vs : List V} {ds : List D} (h : RpM c S H [true, true] vs ds) : ∃ v w d e, vs = [v, w] ∧ ds = [d, e] ∧ RpB c.K c.cm S H v d ∧ RpB c.K c.cm S H w e := by
  match vs, ds, h with
  | v :: vs, d :: ds, h =>
    obtain ⟨w, e, rfl, rfl, h2⟩ := RpM.one h.2
    exact ⟨v, w, d, e, rfl, rfl, h.1, h2⟩
  | [], _, h => exact h.elim
  | _ :: _, [], h => exact h.elim
/-- len -/
noncomputable def lenD : D → Res D
  | .str z => guard (z.length ≤ sizeLine) (.ok (.int z.length))
  | .lst ds => .ok (.int ds.length)
  | .fz ds => .ok (.int ds.length)
  | .tup ds => .ok (.int ds.length)
  | _ => .bad
def g1 (g : D → Res D) : List D → Res D
  | [d] => g d
  | _ => .bad
def g2 (g : D → D → Res D) : List D → Res D
  | [d, e] => g d e
  | _ => .bad
theorem cs_len : CallS c (mV c) (fun xs H Q => ∃ x n, xs = [x] ∧ LenV c.K x H n ∧ Q (.int n) H) [true] (g1 lenD) := by
  intro σ S H vs ds Q ex m p
  obtain ⟨v, d, rfl, rfl, h⟩ := m.one
  cases d with
  | str z =>
    obtain ⟨hl, p⟩ := p.gd
    cases h.str
    exact ⟨_, _, rfl, ⟨hl, rfl⟩, p.here ex (.int _)⟩
  | lst ds =>
    obtain ⟨q, xs, rfl, a1, r1⟩ := h.list ex
    exact ⟨_, _, rfl, .inl ⟨xs, .inl (.inl a1), r1.length.symm⟩, p.here ex (.int _)⟩
  | fz ds =>
    obtain ⟨q, xs, rfl, a1, r1⟩ := h.fz ex
    exact ⟨_, _, rfl, .inl ⟨xs, a1, r1.length.symm⟩, p.here ex (.int _)⟩
  | tup ds =>
    obtain ⟨q, xs, rfl, a1, r1, s1⟩ := h.tup ex
    exact ⟨_, _, rfl, .inr ⟨xs, a1, r1.length.symm⟩, p.here ex (.int _)⟩
  | _ => exact p.elim
/-- int(..) -/
noncomputable def intD : D → Res D
  | .int i => .ok (.int i)
  | .bl k => .ok (.int (if k then 1 else 0))
  | .str a => match PySem.intText? a with
    | some n => guard (a.length ≤ 640) (.ok (.int n))
    | none => .bad
  | _ => .bad
def rIntX : List V → Hp → VK → Prop := fun xs H Q => ((∃ i, xs = [.int i] ∧ Q (.int i) H) ∨ ∃ k, xs = [.bl k] ∧ Q (.int (if k then 1 else 0)) H) ∨ ∃ a n, xs = [.str a] ∧ PySem.intText? a = some n ∧ a.length ≤ 640 ∧ Q (.int n) H
theorem cr_int : CallR X (.type "int") rIntX := call_int1.or call_int_str
theorem cs_int : CallS c (mV c) rIntX [true] (g1 intD) := by
  intro σ S H vs ds Q ex m p
  obtain ⟨v, d, rfl, rfl, h⟩ := m.one
  cases d with
  | int i => cases h.int; exact .inl (.inl ⟨_, rfl, p.here ex (.int _)⟩)
  | bl k => cases h.bl; exact .inl (.inr ⟨_, rfl, p.here ex (.int _)⟩)
  | str a =>
    cases h.str
    unfold g1 intD at p
    dsimp only at p
    split at p
    · rename_i n hn
      obtain ⟨hl, p⟩ := p.gd
      exact .inr ⟨_, n, rfl, hn, hl, p.here ex (.int _)⟩
    · exact p.elim
  | _ => exact p.elim
def absD : D → Res D
  | .int i => .ok (.int (if i < 0 then -i else i))
  | _ => .bad
theorem cs_abs : CallS c (mV c) (fun xs H Q => ∃ i, xs = [.int i] ∧ Q (.int (if i < 0 then -i else i)) H) [true] (g1 absD) := by
  intro σ S H vs ds Q ex m p
  obtain ⟨v, d, rfl, rfl, h⟩ := m.one
  cases d with
  | int i => cases h.int; exact ⟨_, rfl, p.here ex (.int _)⟩
  | _ => exact p.elim
theorem cs_ints2 {g : Int → Int → Int} : CallS c (mV c) (fun xs H Q => ∃ i j, xs = [.int i, .int j] ∧ Q (.int (g i j)) H) [true, true] (g2 (intsD g)) := by
  intro σ S H vs ds Q ex m p
  obtain ⟨v, w, d, e, rfl, rfl, h, h'⟩ := m.two
  unfold g2 intsD at p
  dsimp only at p
  split at p
  · cases h.int; cases h'.int; exact ⟨_, _, rfl, p.here ex (.int _)⟩
  · exact p.elim
abbrev max2 (i j : Int) : Int := if j > i then j else i
abbrev min2 (i j : Int) : Int := if j < i then j else i
/-- list(..), tuple(..) -/
def itemsL : D → Res (List D)
  | .lst ds => .ok ds
  | .fz ds => .ok ds
  | _ => .bad
def itemsT : D → Res (List D)
  | .tup ds => .ok ds
  | _ => .bad
def items : D → Res (List D)
  | .lst ds => .ok ds
  | .fz ds => .ok ds
  | .tup ds => .ok ds
  | _ => .bad
def listD (d : D) : Res D := (items d).bind fun ds => .ok (.lst ds)
theorem cs_list : CallS c (mO c) (fun xs H Q => ∃ p ys, xs = [.ref p] ∧ (SqL c.K H p ys ∨ SqT c.K H p ys) ∧ ∀ l, H l = none → Q (.ref l) (upd H l (.lst ys))) [true] (g1 listD) := by
  intro σ S H vs ds Q ex m p
  obtain ⟨v, d, rfl, rfl, h⟩ := m.one
  cases d with
  | lst ds =>
    obtain ⟨q, xs, rfl, a1, r1⟩ := h.list ex
    exact ⟨q, xs, rfl, .inl (.inl (.inl a1)), fun l hl => p.kept ex hl (.lst r1)⟩
  | fz ds =>
    obtain ⟨q, xs, rfl, a1, r1⟩ := h.fz ex
    exact ⟨q, xs, rfl, .inl a1, fun l hl => p.kept ex hl (.lst r1)⟩
  | tup ds =>
    obtain ⟨q, xs, rfl, a1, r1, s1⟩ := h.tup ex
    exact ⟨q, xs, rfl, .inr a1, fun l hl => p.kept ex hl (.lst r1)⟩
  | _ => exact p.elim
def tupleD (d : D) : Res D := (items d).bind fun ds => .ok (.tup ds)
theorem cs_tuple : CallS c (mV c) (fun xs H Q => ∃ p ys, xs = [.ref p] ∧ ((SqL c.K H p ys ∧ ∀ l, H l = none → Q (.ref l) (upd H l (.tup ys))) ∨ (SqT c.K H p ys ∧ Q (.ref p) H))) [true] (g1 tupleD) := by
  intro σ S H vs ds Q ex m p
  obtain ⟨v, d, rfl, rfl, h⟩ := m.one
  cases d with
  | lst ds =>
    obtain ⟨q, xs, rfl, a1, r1⟩ := h.list ex
    exact ⟨q, xs, rfl, .inl ⟨.inl (.inl a1), fun l hl => p.laid ex hl (.tup (.inl (.inl upd_same)) (r1.mono (Ex.new (ex.nn hl))))⟩⟩
  | fz ds =>
    obtain ⟨q, xs, rfl, a1, r1⟩ := h.fz ex
    exact ⟨q, xs, rfl, .inl ⟨a1, fun l hl => p.laid ex hl (.tup (.inl (.inl upd_same)) (r1.mono (Ex.new (ex.nn hl))))⟩⟩
  | tup ds =>
    obtain ⟨q, xs, rfl, a1, r1, s1⟩ := h.tup ex
    exact ⟨q, xs, rfl, .inr ⟨a1, p.here ex (.tup s1 r1)⟩⟩
  | _ => exact p.elim
/-- str(n), str(text) is not here: see part T -/
noncomputable def strD : D → Res D
  | .int i => guard (i.natAbs.log2 < 1920) (.ok (.str (toString i)))
  | _ => .bad
theorem cs_str : CallS c (mV c) (fun xs H Q => ∃ i, xs = [.int i] ∧ i.natAbs.log2 < 1920 ∧ Q (.str (toString i)) H) [true] (g1 strD) := by
  intro σ S H vs ds Q ex m p
  obtain ⟨v, d, rfl, rfl, h⟩ := m.one
  cases d with
  | int i =>
    obtain ⟨hl, p⟩ := p.gd
    cases h.int; exact ⟨_, rfl, hl, p.here ex (.str _)⟩
  | _ => exact p.elim
/-! ### isinstance(x, T), T built in -/
def tyN : D → Option String
  | .non => some "NoneType"
  | .bl _ => some "bool"
  | .int _ => some "int"
  | .str _ => some "str"
  | .lst _ => some "list"
  | .fz _ => some "list"
  | .tup _ => some "tuple"
  | .dk _ _ => some "dict"
  | .dt _ _ => some "dict"
  | .obj _ _ _ => none
  | .own _ => none
  | .st _ _ => none
def isiD (T : String) (d : D) : Res D := match tyN d with
  | some n => match kitB n T with
    | some b => .ok (.bl b)
    | none => .bad
  | none => .bad
theorem RpB.ty {K : PySem.W.Frag} {cm : CM} {S H : Hp} {v : V} {d : D} {n : String} (h : RpB K cm S H v d) (ex : Ex S H) (q : tyN d = some n) : TyX K H v (.type n) := by
  cases d with
  | non => cases h.non; cases q; exact .base .non
  | bl b => cases h.bl; cases q; exact .base (.bl b)
  | int i => cases h.int; cases q; exact .base (.int i)
  | str s => cases h.str; cases q; exact .base (.str s)
  | lst ds => obtain ⟨p, xs, rfl, a, r⟩ := h.list ex; cases q; exact .base (.lst a)
  | fz ds =>
    obtain ⟨p, xs, rfl, a, r⟩ := h.fz ex; cases q
    rcases a with (a | ⟨o, a⟩) | ⟨o, its, m, a1, a2, _⟩
    · exact .base (.lst a)
    · exact .base (.frz a)
    · exact .kList a1 a2
  | tup ds =>
    obtain ⟨p, xs, rfl, a, r, s⟩ := h.tup ex; cases q
    rcases a with (a | ⟨o, a⟩) | ⟨o, its, m, a1, a2, _⟩
    · exact .base (.tup a)
    · exact .fTuple a
    · exact .kTuple a1 a2
  | dk ks vs => obtain ⟨p, xs, rfl, a, r⟩ := h.dk ex; cases q; exact .base (.dK a)
  | dt ks vs => obtain ⟨p, xs, rfl, a, r⟩ := h.dt ex; cases q; exact .base (.dT a)
  | obj n ns vs => cases q
  | own k => cases q
  | st k M => cases q
/-- the class's name is a built-in's that stands as it was -/
theorem de_isi {x : Str} {pT : Pos} (T : String) (hm : X.mg "isinstance" = none) (hg : Gl X "isinstance") (gT : Gl X x) (mT : X.mg x = none) (bT : bootBuiltins x = some (.type T)) (ha : PE X e (tR c G f)) (hK : c.K = X.K := by rfl)
    (hn : x ≠ "__name__" := by decide) (hd : (x == ("__debug__" : Str)) = false := by decide)
    (hs1 : starEach [e, .Name x pT] X.env = (false, eval e X.env) :: starEach [.Name x pT] X.env := by rfl) (hs2 : starEach [.Name x pT] X.env = (false, eval (.Name x pT) X.env) :: starEach [] X.env := by rfl) (hpl : (backTo pos (starEach [.Name x pT] X.env)).any (·.1) = false := by rfl) :
    PE X (.Call (.Name "isinstance" p) [e, .Name x pT] [] pos) (tV c G (dUn (isiD T) f)) := by
  have hT : PE X (.Name x pT) (tC (.ty T)) := pe_bltn gT mT bT rfl hn hd
  refine pe_imp (pe_callB call_isi hg hm (by decide +kernel) (pa_cons ha (pa_cons hT pa_nil hs2) hs1) (he := hs1) (hpl := hpl)) fun σ H Q ⟨S0, H0, S, r, ok, p⟩ => rd_seq ok p fun d v S1 H1 w1 o1 m1 p1 => ?_
  unfold isiD at p1
  split at p1
  · rename_i n hn
    split at p1
    · rename_i b hb
      exact ⟨v, .ty T, .type n, .type T, b, rfl, .ty T, by rw [← hK]; exact RpB.ty m1 o1.ex hn, kit_ty hb, p1.go o1.ex _ (.bl _)⟩
    · exact p1.elim
  · exact p1.elim
/-! ### subscripts -/
noncomputable def ixD : D → D → Res D
  | .lst ds, .int i => match atI ds i with
    | some d => .ok d
    | none => .bad
  | .fz ds, .int i => match atI ds i with
    | some d => .ok d
    | none => .bad
  | .tup ds, .int i => match atI ds i with
    | some d => .ok d
    | none => .bad
  | .str z, .int i => guard (z.length ≤ sizeLine) (match atI z.cps.toList i with
    | some n => .ok (.str ⟨#[n]⟩)
    | none => .bad)
  | _, _ => .bad
theorem RpA.atI {K : PySem.W.Frag} {cm : CM} {S : Hp} {xs : List V} {ds : List D} {i : Int} {d : D} (h : RpA K cm S xs ds) (q : atI ds i = some d) : ∃ v, L2.atI xs i = some v ∧ Rp K cm S v d := by
  unfold L2.atI at q ⊢
  rw [h.length]
  cases hj : ixN ds.length i with
  | none => rw [hj] at q; cases q
  | some j => rw [hj] at q; exact h.get q
theorem os_ix : OpS c (mV c) (rIx c.K) ixD := by
  intro σ S H x y d e Q ex hx hy p
  unfold ixD at p
  split at p
  · split at p
    · rename_i hd
      obtain ⟨q, xs, rfl, a1, r1⟩ := hx.list ex
      cases hy.int
      obtain ⟨v, h1, h2⟩ := r1.atI hd
      exact .inl ⟨q, xs, _, v, rfl, rfl, .inl (.inl a1), h1, p.here ex h2⟩
    · exact p.elim
  · split at p
    · rename_i hd
      obtain ⟨q, xs, rfl, a1, r1⟩ := hx.fz ex
      cases hy.int
      obtain ⟨v, h1, h2⟩ := r1.atI hd
      exact .inl ⟨q, xs, _, v, rfl, rfl, a1, h1, p.here ex h2⟩
    · exact p.elim
  · split at p
    · rename_i hd
      obtain ⟨q, xs, rfl, a1, r1, s1⟩ := hx.tup ex
      cases hy.int
      obtain ⟨v, h1, h2⟩ := r1.atI hd
      exact .inr (.inl ⟨q, xs, _, v, rfl, rfl, a1, h1, p.here ex h2⟩)
    · exact p.elim
  · obtain ⟨hl, p⟩ := p.gd
    cases hx.str; cases hy.int
    split at p
    · rename_i hd
      exact .inr (.inr ⟨_, _, _, rfl, rfl, hl, hd, p.here ex (.str _)⟩)
    · exact p.elim
  · exact p.elim
theorem de_ix (ha : PE X a (tR c G f1)) (hb : PE X b (tR c G f2)) (hs : PlainIx b) (hK : c.K = X.K := by rfl) : PE X (.Subscript a b pos) (tV c G (dOp ixD f1 f2)) :=
  pe_imp (pe_ix ix_seq ha hb hs) (by rw [← hK]; exact op_rd os_ix)
/-! ### slices -/
def cutL {α : Type} (xs : List α) (lo hi : Option Int) : List α := (xs.drop (HT.sIx xs.length 0 lo)).take (HT.sIx xs.length xs.length hi - HT.sIx xs.length 0 lo)
def asI : D → Res Int
  | .int i => .ok i
  | _ => .bad
def dNoP : Rho → Res (Option Int) := fun _ => .ok none
def dPart (f : Rho → Res D) : Rho → Res (Option Int) := fun r => (f r).bind fun d => (asI d).bind fun i => .ok (some i)
theorem po_imp {oe : Option Expr} {t t' : TO} (h : PO X oe t) (k : ∀ σ H Q, t' σ H Q → t σ H Q) : PO X oe t' := ⟨fun pins s σ H Q I q => h.run pins s σ H Q I (k σ H Q q)⟩
abbrev tP (c : Cf) (G : List Ow) (f : Rho → Res (Option Int)) : TO := rd c G f (mE (Option Int))
theorem dp_none : PO X none (tP c G dNoP) := po_imp po_none fun σ H Q ⟨S0, H0, S, r, ok, p⟩ => p.go ok.ex _ rfl
theorem of_asI {σ : St} {S H : Hp} {d : D} {k : Int → Hp → Hp → Prop} (p : PostG c σ S H (asI d) k) : ∃ i, d = .int i ∧ PostG c σ S H (.ok i) k := by
  cases d with
  | int i => exact ⟨i, rfl, p⟩
  | _ => exact p.elim
theorem dp_some (h : PE X e (tV c G f)) : PO X (some e) (tP c G (dPart f)) := po_imp (po_some h) fun σ H Q ⟨S0, H0, S, r, ok, p⟩ => rd_seq ok p fun d v S1 H1 w1 o1 m1 p1 => by
  obtain ⟨i, rfl, q1⟩ := of_asI p1.unbind
  cases m1
  exact ⟨i, rfl, (q1.go o1.ex).go o1.ex _ rfl⟩
variable {fl fh : Rho → Res (Option Int)} {lo hi : Option Expr} {p2 : Pos}
noncomputable def slD (d : D) (lo hi : Option Int) : Res D := match d with
  | .lst ds => .ok (.lst (cutL ds lo hi))
  | .fz ds => .ok (.lst (cutL ds lo hi))
  | .tup ds => .ok (.tup (cutL ds lo hi))
  | .str z => guard (z.length ≤ sizeLine) (.ok (.str (cutS z lo hi)))
  | _ => .bad
def dSl (g : D → Option Int → Option Int → Res D) (f : Rho → Res D) (fl fh : Rho → Res (Option Int)) : Rho → Res D := fun r => (f r).bind fun d => (fl r).bind fun l => (fh r).bind fun h => g d l h
def rSlX (K : PySem.W.Frag) : V → Option Int → Option Int → Hp → VK → Prop := fun x lo hi H Q => rSlL K x lo hi H Q ∨ rSlA K x lo hi H Q ∨ rSlS x lo hi H Q
theorem sl_x : SlR X (rSlX X.K) := sl_list.or (sl_tupA.or sl_str)
theorem RpA.cut {K : PySem.W.Frag} {cm : CM} {S : Hp} {xs : List V} {ds : List D} {lo hi : Option Int} (h : RpA K cm S xs ds) : RpA K cm S (cutV xs lo hi) (cutL ds lo hi) := by
  unfold cutV cutL
  rw [h.length]
  exact (h.drop _).take _
theorem cutV_whole {xs : List V} {lo hi : Option Int} (h : HT.sIx xs.length 0 lo = 0 ∧ HT.sIx xs.length xs.length hi = xs.length) : cutV xs lo hi = xs := by
  unfold cutV
  rw [h.1, h.2]
  simp
theorem de_sl (ha : PE X a (tR c G f)) (hl : PO X lo (tP c G fl)) (hh : PO X hi (tP c G fh)) (hK : c.K = X.K := by rfl) : PE X (.Subscript a (.Slice lo hi none p2) pos) (tV c G (dSl slD f fl fh)) :=
  pe_imp (pe_slice sl_x ha hl hh) fun σ H Q ⟨S0, H0, S, r, ok, p⟩ => rd_seq ok p fun d v S1 H1 w1 o1 m1 p1 => rd_seq o1 p1 fun l l' S2 H2 w2 o2 m2 p2 => rd_seq o2 p2 fun h h' S3 H3 w3 o3 m3 p3 => by
    have m1 := RpB.mono m1 (w2.s.trans w3.s) (w2.h.trans w3.h)
    rw [show l' = l from m2, show h' = h from m3, ← hK]
    cases d with
    | lst ds =>
      obtain ⟨q, xs, rfl, a1, r1⟩ := m1.list o3.ex
      exact .inl ⟨q, xs, rfl, .inl (.inl a1), fun q hq => PostG.laid p3 o3.ex hq (.lst upd_same (r1.cut.mono (Ex.new (o3.ex.nn hq))))⟩
    | fz ds =>
      obtain ⟨q, xs, rfl, a1, r1⟩ := m1.fz o3.ex
      exact .inl ⟨q, xs, rfl, a1, fun q hq => PostG.laid p3 o3.ex hq (.lst upd_same (r1.cut.mono (Ex.new (o3.ex.nn hq))))⟩
    | tup ds =>
      obtain ⟨q, xs, rfl, a1, r1, s1⟩ := m1.tup o3.ex
      refine .inr (.inl ⟨q, xs, rfl, a1, fun hw => p3.go o3.ex _ (.tup s1 ?_), fun _ q hq => PostG.laid p3 o3.ex hq (.tup (.inl (.inl upd_same)) (r1.cut.mono (Ex.new (o3.ex.nn hq))))⟩)
      have := r1.cut (lo := l) (hi := h)
      rw [cutV_whole hw] at this
      exact this
    | str z =>
      obtain ⟨hl, p3⟩ := p3.gd
      cases m1.str
      exact .inr (.inr ⟨z, rfl, hl, p3.go o3.ex _ (.str _)⟩)
    | _ => exact p3.elim
/-- a slice of a list, the new list one's own -/
def slL (d : D) (lo hi : Option Int) : Res D := match d with
  | .lst ds => .ok (.lst (cutL ds lo hi))
  | .fz ds => .ok (.lst (cutL ds lo hi))
  | _ => .bad
theorem de_slO (ha : PE X a (tR c G f)) (hl : PO X lo (tP c G fl)) (hh : PO X hi (tP c G fh)) (hK : c.K = X.K := by rfl) : PE X (.Subscript a (.Slice lo hi none p2) pos) (tO c G (dSl slL f fl fh)) :=
  pe_imp (pe_slice sl_list ha hl hh) fun σ H Q ⟨S0, H0, S, r, ok, p⟩ => rd_seq ok p fun d v S1 H1 w1 o1 m1 p1 => rd_seq o1 p1 fun l l' S2 H2 w2 o2 m2 p2 => rd_seq o2 p2 fun h h' S3 H3 w3 o3 m3 p3 => by
    have m1 := RpB.mono m1 (w2.s.trans w3.s) (w2.h.trans w3.h)
    rw [show l' = l from m2, show h' = h from m3, ← hK]
    have p3 := PostG.anti (w1.h.trans (w2.h.trans w3.h)) p3
    cases d with
    | lst ds =>
      obtain ⟨q, xs, rfl, a1, r1⟩ := m1.list o3.ex
      exact ⟨q, xs, rfl, .inl (.inl a1), fun q hq => PostG.kept p3 o3.ex hq (.lst r1.cut)⟩
    | fz ds =>
      obtain ⟨q, xs, rfl, a1, r1⟩ := m1.fz o3.ex
      exact ⟨q, xs, rfl, a1, fun q hq => PostG.kept p3 o3.ex hq (.lst r1.cut)⟩
    | _ => exact p3.elim
end
end Dx

end S_DxD
section S_DxE
set_option Elab.async false
set_option linter.all false
set_option maxRecDepth 100000
set_option maxHeartbeats 2000000
/-! Dx, part E: statements, loops, comprehensions. -/
namespace Dx
open PySem L2

/-- what is wanted behind a statement -/
def PostS (c : Cf) (S0 H0 : Hp) (L G' : List Ow) (o : SR) (E : Ends) : Prop :=
  match o with
  | .nx r => ∀ σ' S' H', EnvOk c S0 H0 G' S' H' σ' r → E.nx σ' H'
  | .rt d => if c.rm then ∀ p ho S' H', Fwd S0 H0 S' H' → H0 p = none → S' p = none → H' p = some ho → RpO c.K c.cm S' ho d → E.rt (.ref p) H'
      else ∀ v S' H', Fwd S0 H0 S' H' → Rp c.K c.cm S' v d → E.rt v H'
  | .bk r => ∀ σ' S' H', EnvOk c S0 H0 L S' H' σ' r → E.bk σ' H'
  | .ct r => ∀ σ' S' H', EnvOk c S0 H0 L S' H' σ' r → E.ct σ' H'
  | .er r n ns vs => ∀ C dd σ' S' H' fs, c.cm n = some C → Fwd S0 H0 S' H' → (∀ g, c.ge = some g → EnvOk c S0 H0 g S' H' σ' r) → S' dd = some (.xd fs) → ns = fs.map (·.1) → RpA c.K c.cm S' (fs.map (·.2)) vs → c.W (.ref C) (some dd) σ' H'
  | .bad => False
def sD (c : Cf) (L G G' : List Ow) (F : Rho → SR) : TS := fun E σ H => ∃ S0 H0 S r, EnvOk c S0 H0 G S H σ r ∧ PostS c S0 H0 L G' (F r) E
def liftS {α : Type} (r : Rho) (x : Res α) (k : α → SR) : SR := match x with
  | .ok a => k a
  | .err n ns vs => .er r n ns vs
  | .bad => .bad
/-- where a try's clauses ask for the slots, the kinds are the ones told -/
def Gok (c : Cf) (G : List Ow) : Prop := ∀ g, c.ge = some g → g = G
section
variable {X : Cx} {c : Cf} {L G G' G'' : List Ow} {σ : St} {S0 H0 S H : Hp} {r : Rho} {α β : Type} {E : Ends}
theorem st_seq {f : Rho → Res α} {R : Md β α} (hg : Gok c G) (e : EnvOk c S0 H0 G S H σ r) {k : α → SR} (p : PostS c S0 H0 L G' (liftS r (f r) k) E) {Q : β → Hp → Prop}
    (h : ∀ a b S' H', Fwd S H S' H' → EnvOk c S0 H0 G S' H' σ r → R H S' H' b a → PostS c S0 H0 L G' (k a) E → Q b H') : rd c G f R σ H Q := by
  refine ⟨S0, H0, S, r, e, ?_⟩
  cases hf : f r with
  | ok a => rw [hf] at p; exact fun S' H' fw b hb => h a b S' H' fw (e.go fw) hb p
  | err n ns vs =>
    rw [hf] at p
    exact fun C dd S' H' fs h1 fw h2 h3 h4 => p C dd σ S' H' fs h1 (e.fwd.trans fw) (fun g q => by rw [hg g q]; exact e.go fw) h2 h3 h4
  | bad => rw [hf] at p; exact p.elim
/-- the stable part as the new base -/
theorem EnvOk.rebase (e : EnvOk c S0 H0 G S H σ r) : EnvOk c S H0 G S H σ r := ⟨⟨Ex.refl, e.fwd.h, e.fwd.sub, fun a o h n => by rw [n] at h; cases h⟩, e.len, e.slot, e.sep, e.sto⟩
theorem Fwd.unbase {S' H' : Hp} (f : Fwd S0 H0 S H) (g : Fwd S H0 S' H') : Fwd S0 H0 S' H' := ⟨f.s.trans g.s, g.h, g.sub, fun a o h n => by
  cases q : S a with
  | some u => exact f.new a u q n
  | none => exact g.new a o h q⟩
theorem EnvOk.unbase {S' H' : Hp} {σ' : St} {r' : Rho} (f : Fwd S0 H0 S H) (e : EnvOk c S H0 G' S' H' σ' r') : EnvOk c S0 H0 G' S' H' σ' r' := ⟨f.unbase e.fwd, e.len, e.slot, e.sep, e.sto⟩
theorem PostS.rebase {o : SR} (f : Fwd S0 H0 S H) (p : PostS c S0 H0 L G' o E) : PostS c S H0 L G' o E := by
  cases o with
  | nx r => exact fun σ' S' H' e => p σ' S' H' (e.unbase f)
  | rt d =>
    unfold PostS at p ⊢
    dsimp only at p ⊢
    split
    · rename_i h
      rw [if_pos h] at p
      exact fun q ho S' H' w => p q ho S' H' (f.unbase w)
    · rename_i h
      rw [if_neg h] at p
      exact fun v S' H' w => p v S' H' (f.unbase w)
  | bk r => exact fun σ' S' H' e => p σ' S' H' (e.unbase f)
  | ct r => exact fun σ' S' H' e => p σ' S' H' (e.unbase f)
  | er r n ns vs => exact fun C dd σ' S' H' fs h1 w h2 => p C dd σ' S' H' fs h1 (f.unbase w) fun g q => (h2 g q).unbase f
  | bad => exact p
/-! ### blocks -/
def seqF (F K : Rho → SR) : Rho → SR := fun r => match F r with
  | .nx r' => K r'
  | o => o
theorem ds_nil : PSs X [] (sD c L G G .nx) := pss_imp pss_nil fun E σ H ⟨S0, H0, S, r, ok, p⟩ => p σ S H ok
theorem ds_cons {st : Stmt} {rest : List Stmt} {F K : Rho → SR} (h1 : PS X st (sD c L G G' F)) (h2 : PSs X rest (sD c L G' G'' K)) : PSs X (st :: rest) (sD c L G G'' (seqF F K)) := pss_imp (pss_cons h1 h2) fun E σ H ⟨S0, H0, S, r, ok, p⟩ => by
  refine ⟨S0, H0, S, r, ok, ?_⟩
  unfold seqF at p
  cases hF : F r with
  | nx r' => rw [hF] at p; exact fun σ' S' H' e => ⟨S0, H0, S', r', e, p⟩
  | rt d => rw [hF] at p; exact p
  | bk r' => rw [hF] at p; exact p
  | ct r' => rw [hF] at p; exact p
  | er r' n ns vs => rw [hF] at p; exact p
  | bad => rw [hF] at p; exact p.elim
theorem ds_one {st : Stmt} {F : Rho → SR} (h1 : PS X st (sD c L G G' F)) : PSs X [st] (sD c L G G' F) := pss_one h1
/-- an own object becomes a value, ahead of a block; behind one -/
theorem ds_pub {sts : List Stmt} {F : Rho → SR} (i : Nat) (h : PSs X sts (sD c L (G.set i .v) G' F)) (hk : kd G i = .o ∨ kd G i = .v) : PSs X sts (sD c L G G' F) := pss_imp h fun E σ H ⟨S0, H0, S, r, ok, p⟩ =>
  let ⟨S', ok'⟩ := ok.pub i hk
  ⟨S0, H0, S', r, ok', p⟩
theorem ds_pubE {sts : List Stmt} {F : Rho → SR} (i : Nat) (h : PSs X sts (sD c L G G' F)) (hk : kd G' i = .o ∨ kd G' i = .v) : PSs X sts (sD c L G (G'.set i .v) F) := pss_imp h fun E σ H ⟨S0, H0, S, r, ok, p⟩ => by
  refine ⟨S0, H0, S, r, ok, ?_⟩
  cases hF : F r with
  | nx r' =>
    rw [hF] at p
    exact fun σ' S' H' e => let ⟨S'', e'⟩ := e.pub i hk; p σ' S'' H' e'
  | rt d => rw [hF] at p; exact p
  | bk r' => rw [hF] at p; exact p
  | ct r' => rw [hF] at p; exact p
  | er r' n ns vs => rw [hF] at p; exact p
  | bad => rw [hF] at p; exact p.elim
theorem ds_pub1 {st : Stmt} {F : Rho → SR} (i : Nat) (h : PS X st (sD c L (G.set i .v) G' F)) (hk : kd G i = .o ∨ kd G i = .v) : PS X st (sD c L G G' F) := ps_imp h fun E σ H ⟨S0, H0, S, r, ok, p⟩ =>
  let ⟨S', ok'⟩ := ok.pub i hk
  ⟨S0, H0, S', r, ok', p⟩
/-! ### small statements -/
variable {e : Expr} {pos : Pos} {f : Rho → Res D}
def setF (i : Nat) (f : Rho → Res D) : Rho → SR := fun r => liftS r (f r) fun d => .nx (r.set i (some d))
/-- x = e -/
theorem ds_set (i : Nat) {x : Str} {pos' : Pos} (hg : Gok c G) (hN : X.N.Nodup) (hi : X.N[i]? = some x) (hx : Loc X.env.scope x) (he : PE X e (tV c G f)) (hs : swapsWith e (some (.Name x pos')) pos.line X.env = pure false := by rfl)
    (hf : X.fn x = true ∨ X.env.scope.names.lookup x = some .local := by first | exact .inl rfl | exact .inr rfl | assumption) : PS X (.Assign [.Name x pos'] e pos) (sD c L G (G.set i .v) (setF i f)) :=
  ps_imp (ps_set hN hi hx he hs hf) fun E σ H ⟨S0, H0, S, r, ok, p⟩ => st_seq hg ok p fun d v S1 H1 w1 o1 m1 p1 => p1 _ S1 H1 (o1.setV i m1)
/-- x = e, a new object of one's own -/
theorem ds_setO (i : Nat) {x : Str} {pos' : Pos} (hg : Gok c G) (hG : i < G.length) (hN : X.N.Nodup) (hi : X.N[i]? = some x) (hx : Loc X.env.scope x) (he : PE X e (tO c G f)) (hs : swapsWith e (some (.Name x pos')) pos.line X.env = pure false := by rfl)
    (hf : X.fn x = true ∨ X.env.scope.names.lookup x = some .local := by first | exact .inl rfl | exact .inr rfl | assumption) : PS X (.Assign [.Name x pos'] e pos) (sD c L G (G.set i .o) (setF i f)) :=
  ps_imp (ps_set hN hi hx he hs hf) fun E σ H ⟨S0, H0, S, r, ok, p⟩ => st_seq hg ok p fun d v S1 H1 w1 o1 m1 p1 => by
    obtain ⟨q, ho, rfl, n, ns, hp, h⟩ := m1
    exact p1 _ S1 H1 (ok.setO w1 i hG n ns hp h)
def retF (f : Rho → Res D) : Rho → SR := fun r => liftS r (f r) .rt
theorem ds_ret (hg : Gok c G) (hr : c.rm = false) (he : PE X e (tV c G f)) : PS X (.Return (some e) pos) (sD c L G G' (retF f)) := ps_imp (ps_ret he) fun E σ H ⟨S0, H0, S, r, ok, p⟩ => st_seq hg ok p fun d v S1 H1 w1 o1 m1 p1 => by
  unfold PostS at p1
  rw [hr] at p1
  exact p1 v S1 H1 o1.fwd m1
theorem ds_retO (hg : Gok c G) (hr : c.rm = true) (he : PE X e (tO c G f)) : PS X (.Return (some e) pos) (sD c L G G' (retF f)) := ps_imp (ps_ret he) fun E σ H ⟨S0, H0, S, r, ok, p⟩ => st_seq hg ok p fun d v S1 H1 w1 o1 m1 p1 => by
  unfold PostS at p1
  rw [hr] at p1
  obtain ⟨q, ho, rfl, n, ns, hp, h⟩ := m1
  exact p1 q ho S1 H1 o1.fwd (ok.fwd.h.nn n) ns hp h
/-- return x, x an own object -/
theorem ds_retI (i : Nat) {x : Str} {pos' : Pos} (hr : c.rm = true) (k : kd G i = .o) (he : PE X (.Name x pos') (tVar i)) : PS X (.Return (some (.Name x pos')) pos) (sD c L G G' (retF (dVar i))) := ps_imp (ps_ret he) fun E σ H ⟨S0, H0, S, r, ok, p⟩ => by
  unfold retF dVar at p
  split at p
  · rename_i d hd
    obtain ⟨q, ho, s1, s2, s3, s4, s5⟩ := ok.own k hd
    unfold liftS PostS at p
    dsimp only at p
    rw [hr] at p
    exact ⟨.ref q, s1, p q ho S H ok.fwd s4 s3 s2 s5⟩
  · exact p.elim
theorem ds_retN (hr : c.rm = false) : PS X (.Return none pos) (sD c L G G' (fun _ => .rt .non)) := ps_imp ps_retN fun E σ H ⟨S0, H0, S, r, ok, p⟩ => by
  unfold PostS at p
  rw [hr] at p
  exact p .non S H ok.fwd .non
def dropF {α : Type} (f : Rho → Res α) : Rho → SR := fun r => liftS r (f r) fun _ => .nx r
theorem ds_expr {R : Md V D} (hg : Gok c G) (he : PE X e (rd c G f R)) (hs : swapsWith e none pos.line X.env = pure false := by rfl) : PS X (.Expr e pos) (sD c L G G (dropF f)) := ps_imp (ps_expr he hs) fun E σ H ⟨S0, H0, S, r, ok, p⟩ =>
  st_seq hg ok p fun d v S1 H1 w1 o1 m1 p1 => p1 σ S1 H1 o1
theorem ds_pass : PS X (.Pass pos) (sD c L G G .nx) := ps_imp ps_pass fun E σ H ⟨S0, H0, S, r, ok, p⟩ => p σ S H ok
theorem ds_break : PS X (.Break pos) (sD c G G G' .bk) := ps_imp ps_break fun E σ H ⟨S0, H0, S, r, ok, p⟩ => p σ S H ok
theorem ds_cont : PS X (.Continue pos) (sD c G G G' .ct) := ps_imp ps_continue fun E σ H ⟨S0, H0, S, r, ok, p⟩ => p σ S H ok
def ifF (t : Rho → Res Bool) (F K : Rho → SR) : Rho → SR := fun r => liftS r (t r) fun b => if b = true then F r else K r
theorem ds_if {cnd : Expr} {sa sb : List Stmt} {t : Rho → Res Bool} {F K : Rho → SR} (hg : Gok c G) (hc : PT X cnd (tT c G t)) (ha : PSs X sa (sD c L G G' F)) (hb : PSs X sb (sD c L G G' K)) : PS X (.If cnd sa sb pos) (sD c L G G' (ifF t F K)) :=
  ps_imp (ps_if hc ha hb) fun E σ H ⟨S0, H0, S, r, ok, p⟩ => st_seq hg ok p fun x v S1 H1 w1 o1 m1 p1 => by
    rw [show v = x from m1]
    cases x with
    | true => exact ⟨S0, H0, S1, r, o1, p1⟩
    | false => exact ⟨S0, H0, S1, r, o1, p1⟩
/-! ### x.append(e), x[i] = e, x.pop(), .. of an own list -/
variable {a b : Expr} {f1 f2 : Rho → Res D} {apos cpos p' : Pos}
/-- the own list in slot i -/
def ownL (i : Nat) (r : Rho) : Res (List D) := match r[i]? with
  | some (some (.lst ds)) => .ok ds
  | _ => .bad
theorem of_ownL {i : Nat} {k : List D → SR} (e : EnvOk c S0 H0 G S H σ r) (kd' : kd G i = .o) (p : PostS c S0 H0 L G' (liftS r (ownL i r) k) E) :
    ∃ q xs ds, r[i]? = some (some (.lst ds)) ∧ σ[i]? = some (some (.ref q)) ∧ H q = some (.lst xs) ∧ RpA c.K c.cm S xs ds ∧ PostS c S0 H0 L G' (k ds) E := by
  unfold ownL at p
  split at p
  · rename_i ds hd
    obtain ⟨q, ho, s1, s2, s3, s4, s5⟩ := e.own kd' hd
    cases s5 with
    | lst r1 => exact ⟨q, _, ds, hd, s1, s2, r1, p⟩
  · exact p.elim
noncomputable def guardS (p : Prop) (x : SR) : SR := @ite _ p (Classical.propDecidable p) x .bad
theorem guardS_pos {p : Prop} {x : SR} (h : p) : guardS p x = x := by unfold guardS; exact if_pos h
theorem guardS_true {x : SR} : guardS True x = x := guardS_pos trivial
noncomputable def appF (i : Nat) (f : Rho → Res D) : Rho → SR := fun r => liftS r (ownL i r) fun ds => liftS r (f r) fun d => guardS (ds.length < sizeLine) (.nx (r.set i (some (.lst (ds ++ [d])))))
theorem PostS.ite {p : Prop} [Decidable p] {x : SR} (h : PostS c S0 H0 L G' (if p then x else .bad) E) : p ∧ PostS c S0 H0 L G' x E := by
  by_cases hp : p
  · rw [if_pos hp] at h; exact ⟨hp, h⟩
  · rw [if_neg hp] at h; exact h.elim
theorem PostS.gd {p : Prop} {x : SR} (h : PostS c S0 H0 L G' (guardS p x) E) : p ∧ PostS c S0 H0 L G' x E := by
  by_cases hp : p
  · rw [guardS_pos hp] at h; exact ⟨hp, h⟩
  · unfold guardS at h; rw [if_neg hp] at h; exact h.elim
theorem pe_app {o : Expr} {to te : TE} (ho : PE X o to) (he : PE X e te) (hbase : attributeBase o "append" X.env (eval o X.env) = eval o X.env := by rfl)
    (hfew : ((backTo cpos (starEach [e] X.env)).all (fun x => !x.1) && (backToKw cpos (keywordEach [] X.env)).all (fun x => x.1.isSome) && decide ([e].length + ([] : List Keyword).length + (if ([] : List Keyword).isEmpty then 0 else 1) < 30)) = true := by rfl)
    (hline : (apos.endLine == cpos.line) = true := by rfl) (hs : starEach [e] X.env = (false, eval e X.env) :: starEach [] X.env := by rfl) :
    PE X (.Call (.Attribute o "append" apos) [e] [] cpos) (tBM X.K "list" rAppend to (tCons te tNil)) :=
  pe_bm PySem.F.plainAttrs_list PySem.F.slot_list_append PySem.F.type_list_append mt_append ho (pa_cons he pa_nil hs) hbase hfew hline hs rfl
theorem ds_app (i : Nat) {x : Str} {pn : Pos} (hg : Gok c G) (k : kd G i = .o) (ho : PE X (.Name x pn) (tVar i)) (he : PE X e (tV c G f)) (hw : swapsWith (.Call (.Attribute (.Name x pn) "append" apos) [e] [] cpos) none pos.line X.env = pure false := by rfl)
    (hbase : attributeBase (.Name x pn) "append" X.env (eval (.Name x pn) X.env) = eval (.Name x pn) X.env := by rfl)
    (hfew : ((backTo cpos (starEach [e] X.env)).all (fun x => !x.1) && (backToKw cpos (keywordEach [] X.env)).all (fun x => x.1.isSome) && decide ([e].length + ([] : List Keyword).length + (if ([] : List Keyword).isEmpty then 0 else 1) < 30)) = true := by rfl)
    (hline : (apos.endLine == cpos.line) = true := by rfl) (hs : starEach [e] X.env = (false, eval e X.env) :: starEach [] X.env := by rfl) :
    PS X (.Expr (.Call (.Attribute (.Name x pn) "append" apos) [e] [] cpos) pos) (sD c L G G (appF i f)) :=
  ps_imp (ps_expr (pe_app ho he hbase hfew hline hs) hw) fun E σ H ⟨S0, H0, S, r, ok, p⟩ => by
    obtain ⟨q, xs, ds, hd, z1, z2, z3, p1⟩ := of_ownL ok k p
    refine ⟨.ref q, z1, .inl ⟨rfl, xs, .inl (.inl z2)⟩, st_seq hg ok p1 fun d v S1 H1 w1 o1 m1 p2 => ?_⟩
    obtain ⟨hl, p2⟩ := p2.gd
    exact ⟨q, xs, v, rfl, rfl, w1.h _ _ z2, by rw [z3.length]; exact hl, p2 σ S1 _ (o1.mut k hd z1 (.lst ((z3.mono w1.s).app (.one m1))))⟩
/-- x[i] = e, x an own list -/
def stoF (i : Nat) (fi f : Rho → Res D) : Rho → SR := fun r => liftS r (f r) fun d => liftS r (ownL i r) fun ds => liftS r (fi r) fun k => liftS r (asI k) fun k => match ixN ds.length k with
  | some j => .nx (r.set i (some (.lst (ds.set j d))))
  | none => .bad
theorem ds_sto (i : Nat) {x : Str} {pn : Pos} {ix : Expr} {fi : Rho → Res D} (hg : Gok c G) (k : kd G i = .o) (ho : PE X (.Name x pn) (tVar i)) (hi : PE X ix (tV c G fi)) (he : PE X e (tV c G f))
    (ha : ∀ v, assign (.Subscript (.Name x pn) ix p') X.env v = (do
      let ov ← holding [v] (eval (.Name x pn) X.env)
      let iv ← holding [v, ov] (eval ix X.env)
      standAt p'
      holding [v, ov, iv] (setItem ov iv v)
      release [v, ov, iv] []) := by intro _; rfl)
    (hs : swapsWithSole [.Subscript (.Name x pn) ix p'] e pos.line X.env = pure false := by rfl) (hw : swappedStores [.Subscript (.Name x pn) ix p'] e X.env = pure none := by rfl)
    (h1 : (assignEach [.Subscript (.Name x pn) ix p'] X.env).map (·.2) = [assign (.Subscript (.Name x pn) ix p') X.env] := by rfl) :
    PS X (.Assign [.Subscript (.Name x pn) ix p'] e pos) (sD c L G G (stoF i fi f)) :=
  ps_imp (ps_asg he (pg_sub ho hi set_list ha) hs hw h1) fun E σ H ⟨S0, H0, S, r, ok, p⟩ => st_seq hg ok p fun d v S1 H1 w1 o1 m1 p1 => by
    obtain ⟨q, xs, ds, hd, z1, z2, z3, p2⟩ := of_ownL o1 k p1
    refine ⟨.ref q, z1, st_seq hg o1 p2 fun kk u S2 H2 w2 o2 m2 p3 => ?_⟩
    cases kk with
    | int j =>
      cases m2
      dsimp only [asI, liftS] at p3
      split at p3
      · rename_i n hn
        refine ⟨q, xs, j, n, rfl, rfl, w2.h _ _ z2, by rw [z3.length]; exact hn, p3 σ S2 _ (o2.mut k hd z1 (.lst (RpA.set (Rp.mono w2.s m1) n (z3.mono w2.s))))⟩
      · exact p3.elim
    | _ => exact p3.elim
/-! ### targets -/
/-- what is wanted behind a target -/
def PostR (c : Cf) (S0 H0 S H : Hp) (G' : List Ow) (σ : St) (ks : List Nat) (x : Res Rho) (Q : St → Hp → Prop) : Prop := match x with
  | .ok r' => ∀ σ', wipe σ' ks = wipe σ ks → EnvOk c S0 H0 G' S H σ' r' → Q σ' H
  | _ => False
theorem wipe_get (σ : St) : ∀ (vs : List Nat) (i : Nat), (wipe σ vs)[i]? = if i ∈ vs then σ[i]?.map (fun _ => none) else σ[i]?
  | [], i => by simp [wipe]
  | v :: vs, i => by
    show ((wipe σ vs).set v none)[i]? = _
    by_cases h : v = i
    · subst h
      rw [List.getElem?_set, if_pos rfl, wipe_length, if_pos (List.mem_cons_self)]
      split
      · rename_i hl; simp [List.getElem?_eq_getElem hl]
      · rename_i hl; rw [List.getElem?_eq_none (by omega)]; rfl
    · rw [List.getElem?_set_ne h, wipe_get σ vs i]
      have : (i ∈ v :: vs) ↔ i ∈ vs := by simp [List.mem_cons, Ne.symm h]
      simp only [this]
theorem wipe_set {σ : St} {i : Nat} {x : Option V} : wipe (σ.set i x) [i] = wipe σ [i] := by
  show (σ.set i x).set i none = σ.set i none
  exact List.set_set _
theorem wipe_len {σ σ' : St} {ks : List Nat} (h : wipe σ' ks = wipe σ ks) : σ'.length = σ.length := by
  have := congrArg List.length h
  rw [wipe_length, wipe_length] at this
  exact this
theorem wipe_get_eq {σ σ' : St} {ks : List Nat} (h : wipe σ' ks = wipe σ ks) {i : Nat} (hi : i ∉ ks) : σ'[i]? = σ[i]? := by
  have := congrArg (fun l : St => l[i]?) h
  simp only [wipe_get, if_neg hi] at this
  exact this
theorem wipe_app {σ σ1 σ2 : St} {k1 k2 : List Nat} (h1 : wipe σ1 k1 = wipe σ k1) (h2 : wipe σ2 k2 = wipe σ1 k2) : wipe σ2 (k1 ++ k2) = wipe σ (k1 ++ k2) := by
  have l1 := wipe_len h1
  have l2 := wipe_len h2
  apply List.ext_getElem?
  intro i
  rw [wipe_get, wipe_get]
  by_cases hi : i ∈ k1 ++ k2
  · rw [if_pos hi, if_pos hi]
    by_cases hl : i < σ.length
    · rw [List.getElem?_eq_getElem hl, List.getElem?_eq_getElem (show i < σ2.length by omega)]; rfl
    · rw [List.getElem?_eq_none (by omega), List.getElem?_eq_none (by omega)]
  · rw [if_neg hi, if_neg hi]
    have a1 : i ∉ k1 := fun z => hi (List.mem_append_left _ z)
    have a2 : i ∉ k2 := fun z => hi (List.mem_append_right _ z)
    rw [wipe_get_eq h2 a2, wipe_get_eq h1 a1]
/-- a target by data -/
def gD (c : Cf) (G G' : List Ow) (ks : List Nat) (t : D → Rho → Res Rho) : TG := fun v σ H Q => ∃ S0 H0 S r d, EnvOk c S0 H0 G S H σ r ∧ Rp c.K c.cm S v d ∧ PostR c S0 H0 S H G' σ ks (t d r) Q
theorem pg_imp {tg : Expr} {t t' : TG} (h : PG X tg t) (k : ∀ v σ H Q, t' v σ H Q → t v σ H Q) : PG X tg t' := ⟨fun pins s σ H v u Q I r q => h.run pins s σ H v u Q I r (k v σ H Q q)⟩
theorem pgs_imp {tg : List Expr} {t t' : TGs} (h : PGs X tg t) (k : ∀ v σ H Q, t' v σ H Q → t v σ H Q) : PGs X tg t' := ⟨fun pins s σ H v u Q I r q => h.run pins s σ H v u Q I r (k v σ H Q q)⟩
def tgN (i : Nat) : D → Rho → Res Rho := fun d r => .ok (r.set i (some d))
theorem dg_name (i : Nat) {x : Str} (hN : X.N.Nodup) (hi : X.N[i]? = some x) (hx : Loc X.env.scope x) (hf : X.fn x = true ∨ X.env.scope.names.lookup x = some .local := by first | exact .inl rfl | exact .inr rfl | assumption) :
    PG X (.Name x pos) (gD c G (G.set i .v) [i] (tgN i)) := pg_imp (pg_name hN hi hx hf) fun v σ H Q ⟨S0, H0, S, r, d, ok, hv, p⟩ => p _ wipe_set (ok.setV i hv)
def gDs (c : Cf) (G G' : List Ow) (ks : List Nat) (t : List D → Rho → Res Rho) : TGs := fun vs σ H Q => ∃ S0 H0 S r ds, EnvOk c S0 H0 G S H σ r ∧ RpA c.K c.cm S vs ds ∧ PostR c S0 H0 S H G' σ ks (t ds r) Q
def tgNil : List D → Rho → Res Rho
  | [], r => .ok r
  | _ :: _, _ => .bad
def tgCons (t : D → Rho → Res Rho) (u : List D → Rho → Res Rho) : List D → Rho → Res Rho
  | [], _ => .bad
  | d :: ds, r => (t d r).bind (u ds)
theorem dg_nil : PGs X [] (gDs c G G [] tgNil) := pgs_imp pgs_nil fun vs σ H Q ⟨S0, H0, S, r, ds, ok, hv, p⟩ => by
  cases hv with
  | nil => exact ⟨rfl, p σ rfl ok⟩
  | cons _ _ => exact p.elim
theorem dg_cons {es : List Expr} {t : D → Rho → Res Rho} {u : List D → Rho → Res Rho} {k1 k2 : List Nat} (h1 : PG X e (gD c G G' k1 t)) (h2 : PGs X es (gDs c G' G'' k2 u)) (hs : (assignEach (e :: es) X.env).map (·.2) = assign e X.env :: (assignEach es X.env).map (·.2) := by rfl) :
    PGs X (e :: es) (gDs c G G'' (k1 ++ k2) (tgCons t u)) := pgs_imp (pgs_cons h1 h2 hs) fun vs σ H Q ⟨S0, H0, S, r, ds, ok, hv, p⟩ => by
  cases hv with
  | nil => exact p.elim
  | @cons v vs d ds hv hr =>
    refine ⟨v, vs, rfl, S0, H0, S, r, d, ok, hv, ?_⟩
    have p : PostR c S0 H0 S H G'' σ (k1 ++ k2) ((t d r).bind (u ds)) Q := p
    cases ht : t d r with
    | ok r1 =>
      rw [ht] at p
      intro σ1 z1 ok1
      refine ⟨S0, H0, S, r1, ds, ok1, hr, ?_⟩
      have p : PostR c S0 H0 S H G'' σ (k1 ++ k2) (u ds r1) Q := p
      cases hu : u ds r1 with
      | ok r2 => rw [hu] at p; exact fun σ2 z2 ok2 => p σ2 (wipe_app z1 z2) ok2
      | err _ _ _ => rw [hu] at p; exact p.elim
      | bad => rw [hu] at p; exact p.elim
    | err _ _ _ => rw [ht] at p; exact p.elim
    | bad => rw [ht] at p; exact p.elim
def tgT (n : Nat) (u : List D → Rho → Res Rho) : D → Rho → Res Rho := fun d r => match d with
  | .tup ds => if ds.length = n then u ds r else .bad
  | _ => .bad
theorem dg_tup {es : List Expr} {k n : Nat} {ks : List Nat} {u : List D → Rho → Res Rho} (hc : X.calm = true) (h : PGs X es (gDs c G G' ks u)) (hn : (assignEach es X.env).length = n := by rfl) (hst : (assignEach es X.env).findIdx? (·.1) = none := by rfl) (hK : c.K = X.K := by rfl) :
    PG X (.Tuple es k pos) (gD c G G' ks (tgT n u)) := pg_imp (pg_tup hc h hn hst) fun v σ H Q ⟨S0, H0, S, r, d, ok, hv, p⟩ => by
  unfold tgT at p
  cases hv with
  | @tup a xs ds q rr =>
    dsimp only at p
    by_cases hl : ds.length = n
    · rw [if_pos hl] at p
      exact ⟨a, xs, rfl, by rw [← hK]; exact ok.ex.t q, by rw [rr.length]; exact hl, S0, H0, S, r, ds, ok, rr, p⟩
    · rw [if_neg hl] at p; exact p.elim
  | _ => exact p.elim
def asgF (t : D → Rho → Res Rho) (f : Rho → Res D) : Rho → SR := fun r => liftS r (f r) fun d => match t d r with
  | .ok r' => .nx r'
  | _ => .bad
/-- target = e -/
theorem ds_asg {tg : Expr} {ks : List Nat} {t : D → Rho → Res Rho} (hg : Gok c G) (he : PE X e (tV c G f)) (ht : PG X tg (gD c G G' ks t)) (hs : swapsWithSole [tg] e pos.line X.env = pure false := by rfl) (hw : swappedStores [tg] e X.env = pure none := by rfl)
    (h1 : (assignEach [tg] X.env).map (·.2) = [assign tg X.env] := by rfl) : PS X (.Assign [tg] e pos) (sD c L G G' (asgF t f)) := ps_imp (ps_asg he ht hs hw h1) fun E σ H ⟨S0, H0, S, r, ok, p⟩ => st_seq hg ok p fun d v S1 H1 w1 o1 m1 p1 => by
  refine ⟨S0, H0, S1, r, d, o1, m1, ?_⟩
  cases ht : t d r with
  | ok r' => rw [ht] at p1; exact fun σ' _ ok' => p1 σ' S1 H1 ok'
  | err _ _ _ => rw [ht] at p1; exact p1.elim
  | bad => rw [ht] at p1; exact p1.elim
/-- x, y = a, b -/
def parF (i j : Nat) (f1 f2 : Rho → Res D) : Rho → SR := fun r => liftS r (dCons f1 (dCons f2 dNil) r) fun ds => match ds with
  | [d, e] => .nx ((r.set i (some d)).set j (some e))
  | _ => .bad
theorem ds_par (i j : Nat) {x y : Str} {px py pt pt2 : Pos} {kt k2 : Nat} (hg : Gok c G) (hc : X.calm = true) (hN : X.N.Nodup) (hi : X.N[i]? = some x) (hj : X.N[j]? = some y) (hij : i ≠ j)
    (hx : X.env.scope.names.lookup x = some .local) (hy : X.env.scope.names.lookup y = some .local) (ha : PE X a (tV c G f1)) (hb : PE X b (tV c G f2))
    (hw : swappedStores [.Tuple [.Name x px, .Name y py] kt pt] (.Tuple [a, b] k2 pt2) X.env = pure (some [x, y]))
    (hs : swapsWithSole [.Tuple [.Name x px, .Name y py] kt pt] (.Tuple [a, b] k2 pt2) pos.line X.env = pure false := by rfl)
    (hs1 : starEach [a, b] X.env = (false, eval a X.env) :: starEach [b] X.env := by rfl) (hs2 : starEach [b] X.env = (false, eval b X.env) :: starEach [] X.env := by rfl) :
    PS X (.Assign [.Tuple [.Name x px, .Name y py] kt pt] (.Tuple [a, b] k2 pt2) pos) (sD c L G ((G.set i .v).set j .v) (parF i j f1 f2)) :=
  ps_imp (ps_par hc hN hi hj hij hx hy (da_cons ha (da_cons hb da_nil hs2) hs1) hw hs) fun E σ H ⟨S0, H0, S, r, ok, p⟩ => st_seq hg ok p fun ds vs S1 H1 w1 o1 m1 p1 => by
    match ds, m1, p1 with
    | [d, e], .cons hd (.cons he .nil), p1 => exact ⟨_, _, rfl, p1 _ S1 H1 ((o1.setV i hd).setV j he)⟩
    | [], _, p1 => exact p1.elim
    | [_], _, p1 => exact p1.elim
    | _ :: _ :: _ :: _, _, p1 => exact p1.elim
/-! ### what is walked -/
def YOk (c : Cf) (S' : Hp) (ds : List D) (Y : Nat → Hp → V → Hp → Prop) : Prop := ∀ i S1 H1 x H2, i < ds.length → Ex S' S1 → Ex S1 H1 → Y i H1 x H2 → ∃ S2 d, Fwd S1 H1 S2 H2 ∧ ds[i]? = some d ∧ Rp c.K c.cm S2 x d
/-- the iterator J gives the data ds -/
def Gives (c : Cf) (H0 S' : Hp) (J : It) (ds : List D) : Prop := ∃ Gd Y, Walk J ds.length Gd Y ∧ (∀ S'' H'', Ex S' S'' → Ex S'' H'' → Ex H0 H'' → Gd H'') ∧ YOk c S' ds Y
def iD (c : Cf) (G : List Ow) (f : Rho → Res (List D)) : TI := fun σ H R => ∃ S0 H0 S r, EnvOk c S0 H0 G S H σ r ∧ PostG c σ S H (f r) fun ds S' H' => ∀ J, Gives c H0 S' J ds → R J H'
theorem pi_imp {tg it : Expr} {t t' : TI} (h : PI X tg it t) (k : ∀ σ H R, t' σ H R → t σ H R) : PI X tg it t' := ⟨fun pins s σ H R I q => h.run pins s σ H R I (k σ H R q)⟩
def dIt (g : D → Res (List D)) (f : Rho → Res D) : Rho → Res (List D) := fun r => (f r).bind g
theorem gives_list {c : Cf} {H0 S : Hp} {q : Addr} {xs : List V} {ds : List D} (h : SqL c.K S q xs) (rr : RpA c.K c.cm S xs ds) : Gives c H0 S (Itl c.K q) ds := by
  refine ⟨_, _, by rw [← rr.length]; exact walk_list (K := c.K) (a := q) (xs := xs), fun S'' H'' e1 e2 _ => e2.l (e1.l h), fun i S1 H1 x H2 hi e1 e2 y => ?_⟩
  obtain ⟨rfl, hx⟩ := y
  obtain ⟨d, h1, h2⟩ := rr.getV hx
  exact ⟨S1, d, Fwd.refl e2, h1, h2.mono e1⟩
theorem gives_tup {c : Cf} {H0 S : Hp} {q : Addr} {xs : List V} {ds : List D} (h : SqT c.K S q xs) (rr : RpA c.K c.cm S xs ds) : Gives c H0 S (Itt c.K q) ds := by
  refine ⟨_, _, by rw [← rr.length]; exact walk_tup (K := c.K) (a := q) (xs := xs), fun S'' H'' e1 e2 _ => e2.t (e1.t h), fun i S1 H1 x H2 hi e1 e2 y => ?_⟩
  obtain ⟨rfl, hx⟩ := y
  obtain ⟨d, h1, h2⟩ := rr.getV hx
  exact ⟨S1, d, Fwd.refl e2, h1, h2.mono e1⟩
variable {tg : Expr}
theorem di_list (he : PE X e (tV c G f)) (hK : c.K = X.K := by rfl) : PI X tg e (iD c G (dIt itemsL f)) := pi_imp (pi_list he) fun σ H R ⟨S0, H0, S, r, ok, p⟩ => rd_seq ok p fun d v S1 H1 w1 o1 m1 p1 => by
  rw [← hK]
  cases d with
  | lst ds =>
    cases m1 with | @lst q xs _ h rr =>
    exact ⟨q, rfl, ⟨xs, .inl (.inl (o1.ex _ _ h))⟩, p1.go o1.ex _ (gives_list (.inl (.inl h)) rr)⟩
  | fz ds =>
    cases m1 with | @fz q xs _ h rr =>
    exact ⟨q, rfl, ⟨xs, o1.ex.l h⟩, p1.go o1.ex _ (gives_list h rr)⟩
  | _ => exact p1.elim
theorem di_tup (he : PE X e (tV c G f)) (hK : c.K = X.K := by rfl) : PI X tg e (iD c G (dIt itemsT f)) := pi_imp (pi_tup he) fun σ H R ⟨S0, H0, S, r, ok, p⟩ => rd_seq ok p fun d v S1 H1 w1 o1 m1 p1 => by
  rw [← hK]
  cases d with
  | tup ds =>
    cases m1 with | @tup q xs _ h rr =>
    exact ⟨q, rfl, ⟨xs, o1.ex.t h⟩, p1.go o1.ex _ (gives_tup h rr)⟩
  | _ => exact p1.elim
/-- a borrowed list: a parameter's slot -/
theorem di_bor (i : Nat) {x : Str} (he : PE X (.Name x pos) (tVar i)) (k : kd G i = .b) (hK : c.K = X.K := by rfl) : PI X tg (.Name x pos) (iD c G (dIt itemsL (dVar i))) := pi_imp (pi_list he) fun σ H R ⟨S0, H0, S, r, ok, p⟩ => by
  obtain ⟨d, hd, p⟩ := of_dVar (p.unbind)
  obtain ⟨v, h1, h2⟩ := ok.slot i d hd
  rw [k] at h2
  have p1 := p.go ok.ex
  refine ⟨v, h1, ?_⟩
  rw [← hK]
  cases d with
  | lst ds =>
    rcases h2 with h2 | ⟨q, ho, rfl, h3, h4⟩
    · cases h2 with | @lst q xs _ h rr =>
      exact ⟨q, rfl, ⟨xs, .inl (.inl (ok.ex _ _ h))⟩, p1.go ok.ex _ (gives_list (.inl (.inl h)) rr)⟩
    · cases h4 with | @lst xs _ rr =>
      refine ⟨q, rfl, ⟨xs, .inl (.inl (ok.fwd.h _ _ h3))⟩, p1.go ok.ex _ ⟨_, _, by rw [← rr.length]; exact walk_list (K := c.K) (a := q) (xs := xs), fun S'' H'' e1 e2 e3 => show SqL c.K H'' q xs from .inl (.inl (e3 _ _ h3)), fun i S1 H1 x H2 hi e1 e2 y => ?_⟩⟩
      obtain ⟨rfl, hx⟩ := y
      obtain ⟨d, h1, h2⟩ := rr.getV hx
      exact ⟨S1, d, Fwd.refl e2, h1, h2.mono e1⟩
  | fz ds =>
    rcases h2 with h2 | ⟨q, ho, rfl, h3, h4⟩
    · cases h2 with | @fz q xs _ h rr =>
      exact ⟨q, rfl, ⟨xs, ok.ex.l h⟩, p1.go ok.ex _ (gives_list h rr)⟩
    · cases h4
  | _ => exact p1.elim
/-- range(n), range(a, b) -/
def rngL (lo : Int) (n : Nat) : List D := (List.range n).map fun (i : Nat) => D.int (lo + (i : Int))
theorem gives_rng {c : Cf} {H0 S : Hp} {lo : Int} {n : Nat} : Gives c H0 S (Itr lo n) (rngL lo n) := by
  have hl : (rngL lo n).length = n := by unfold rngL; simp
  refine ⟨_, _, by rw [hl]; exact walk_range, fun _ _ _ _ _ => trivial, fun i S1 H1 x H2 hi e1 e2 y => ?_⟩
  obtain ⟨rfl, rfl⟩ := y
  rw [hl] at hi
  exact ⟨S1, .int (lo + (i : Int)), Fwd.refl e2, by unfold rngL; simp [hi], .int _⟩
noncomputable def rng1 : List D → Res (List D)
  | [.int n] => guard (-4611686018427387904 ≤ n ∧ n < 4611686018427387904) (.ok (rngL 0 n.toNat))
  | _ => .bad
noncomputable def rng2 : List D → Res (List D)
  | [.int a, .int b] => guard (-4611686018427387904 ≤ a ∧ a < 4611686018427387904 ∧ -4611686018427387904 ≤ b ∧ b < 4611686018427387904) (.ok (rngL a (b - a).toNat))
  | _ => .bad
def dIts (g : List D → Res (List D)) (fs : Rho → Res (List D)) : Rho → Res (List D) := fun r => (fs r).bind g
theorem di_rng1 {p : Pos} {fs : Rho → Res (List D)} (hm : X.mg "range" = none) (hg : Gl X "range") (ha : PA X [a] (tAs c G fs)) (hs : starEach [a] X.env = [(false, eval a X.env)] := by rfl) : PI X tg (.Call (.Name "range" p) [a] [] pos) (iD c G (dIts rng1 fs)) :=
  pi_imp (pi_range1 hg hm ha hs) fun σ H R ⟨S0, H0, S, r, ok, p⟩ => rd_seq ok p fun ds vs S1 H1 w1 o1 m1 p1 => by
    unfold rng1 at p1
    split at p1
    · obtain ⟨hl, p1⟩ := p1.gd
      match vs, m1 with
      | _, .cons h .nil => cases h; exact ⟨_, rfl, by have := hl.1; omega, by have := hl.2; omega, p1.go o1.ex _ gives_rng⟩
    · exact p1.elim
theorem di_rng2 {p : Pos} {fs : Rho → Res (List D)} (hm : X.mg "range" = none) (hg : Gl X "range") (ha : PA X [a, b] (tAs c G fs)) (hs : starEach [a, b] X.env = [(false, eval a X.env), (false, eval b X.env)] := by rfl) (hs2 : starEach [b] X.env = [(false, eval b X.env)] := by rfl) :
    PI X tg (.Call (.Name "range" p) [a, b] [] pos) (iD c G (dIts rng2 fs)) :=
  pi_imp (pi_range2 hg hm ha hs hs2) fun σ H R ⟨S0, H0, S, r, ok, p⟩ => rd_seq ok p fun ds vs S1 H1 w1 o1 m1 p1 => by
    unfold rng2 at p1
    split at p1
    · obtain ⟨hl, p1⟩ := p1.gd
      match vs, m1 with
      | _, .cons h (.cons h' .nil) => cases h; cases h'; exact ⟨_, _, rfl, by obtain ⟨h1, h2, h3, h4⟩ := hl; omega, p1.go o1.ex _ gives_rng⟩
    · exact p1.elim
/-- the signs of a text -/
def signs (z : Str) : List D := z.cps.toList.map fun n => .str ⟨#[n]⟩
def itemsS : D → Res (List D)
  | .str z => .ok (signs z)
  | _ => .bad
theorem di_str (he : PE X e (tV c G f)) : PI X tg e (iD c G (dIt itemsS f)) := pi_imp (pi_str he) fun σ H R ⟨S0, H0, S, r, ok, p⟩ => rd_seq ok p fun d v S1 H1 w1 o1 m1 p1 => by
  cases d with
  | str z =>
    cases m1
    have hl : (signs z).length = z.cps.size := by unfold signs; simp
    refine ⟨z, rfl, p1.go o1.ex _ ⟨_, _, by rw [hl]; exact walk_str (z := z), fun _ _ _ _ _ => trivial, fun i S2 H2 x H3 hi e1 e2 y => ?_⟩⟩
    obtain ⟨rfl, n, hn, rfl⟩ := y
    refine ⟨S2, .str ⟨#[n]⟩, Fwd.refl e2, ?_, .str _⟩
    unfold signs
    rw [List.getElem?_map, Array.getElem?_toList, hn]; rfl
  | _ => exact p1.elim
/-! ### for -/
def loopF (t : D → Rho → Res Rho) (F : Rho → SR) : List D → Rho → SR
  | [], r => .nx r
  | d :: ds, r => match t d r with
    | .ok r1 => match F r1 with
      | .nx r2 => loopF t F ds r2
      | .ct r2 => loopF t F ds r2
      | .bk r2 => .nx r2
      | o => o
    | _ => .bad
def forF (its : Rho → Res (List D)) (t : D → Rho → Res Rho) (F : Rho → SR) : Rho → SR := fun r => liftS r (its r) fun ds => loopF t F ds r
theorem ds_for {iter : Expr} {body : List Stmt} {its : Rho → Res (List D)} {ks : List Nat} {t : D → Rho → Res Rho} {F : Rho → SR} (hg : Gok c G) (hp : PassesOwn (model X.prog X.w) X.A X.env X.xe) (hc : X.calm = true) (hi : PI X tg iter (iD c G its)) (ht : PG X tg (gD c G G' ks t)) (hb : PSs X body (sD c G G' G F))
    (hs : ∀ x, foldedSetIterable iter X.env x = pure x := by intro _; rfl) : PS X (.For tg iter body [] pos) (sD c L G G (forF its t F)) :=
  ps_imp (ps_for hp hc hi ht hb hs) fun E σ H ⟨S0, H0, S, r, ok, p⟩ => by
    refine ⟨S0, H0, S, r, ok, ?_⟩
    unfold forF at p
    cases hf : its r with
    | err n ns vs =>
      rw [hf] at p
      exact fun C dd S' H' fs h1 fw h2 h3 h4 => p C dd σ S' H' fs h1 (ok.fwd.trans fw) (fun g q => by rw [hg g q]; exact ok.go fw) h2 h3 h4
    | bad => rw [hf] at p; exact p.elim
    | ok ds =>
      rw [hf] at p
      intro S1 H1 w1 J ⟨Gd, Y, wk, hG, hY⟩
      have p : PostS c S0 H0 L G (loopF t F ds r) E := p
      refine for_it wk (fun i σ' H' => ∃ S' r', Ex S1 S' ∧ EnvOk c S0 H0 G S' H' σ' r' ∧ PostS c S0 H0 L G (loopF t F (ds.drop i) r') E) ⟨S1, r, Ex.refl, ok.go w1, by rw [List.drop_zero]; exact p⟩ ?_ ?_ ?_
      · rintro i σ' H' _ ⟨S', r', e1, ok', _⟩
        exact hG S' H' e1 ok'.ex ok'.fwd.h
      · rintro i x σ' H' H2 hi ⟨S', r', e1, ok', p'⟩ y
        obtain ⟨S2, d, fw, hd, hx⟩ := hY i S' H' x H2 hi e1 ok'.ex y
        have hdrop : ds.drop i = d :: ds.drop (i + 1) := by
          rw [List.drop_eq_getElem_cons hi]
          rw [List.getElem?_eq_getElem hi] at hd
          cases hd; rfl
        rw [hdrop] at p'
        unfold loopF at p'
        refine ⟨S0, H0, S2, r', d, ok'.go fw, hx, ?_⟩
        cases htt : t d r' with
        | err _ _ _ => rw [htt] at p'; exact p'.elim
        | bad => rw [htt] at p'; exact p'.elim
        | ok r1 =>
          rw [htt] at p'
          intro σ3 _ ok3
          refine ⟨S2, H0, S2, r1, ok3.rebase, ?_⟩
          dsimp only at p'
          have fin : ∀ σ4 S4 H4 r4, EnvOk c S2 H0 G S4 H4 σ4 r4 → PostS c S0 H0 L G (loopF t F (ds.drop (i + 1)) r4) E → ∃ S' r', Ex S1 S' ∧ EnvOk c S0 H0 G S' H4 σ4 r' ∧ PostS c S0 H0 L G (loopF t F (ds.drop (i + 1)) r') E := fun σ4 S4 H4 r4 e4 p4 =>
            ⟨S4, r4, (e1.trans fw.s).trans e4.fwd.s, e4.unbase ok3.fwd, p4⟩
          cases hF : F r1 with
          | nx r2 => rw [hF] at p'; exact fun σ4 S4 H4 e4 => fin σ4 S4 H4 r2 e4 p'
          | ct r2 => rw [hF] at p'; exact fun σ4 S4 H4 e4 => fin σ4 S4 H4 r2 e4 p'
          | bk r2 => rw [hF] at p'; exact fun σ4 S4 H4 e4 => p' σ4 S4 H4 (e4.unbase ok3.fwd)
          | rt d => rw [hF] at p'; exact PostS.rebase (c := c) (o := .rt d) (E := E) ok3.fwd p'
          | er r2 n ns vs => rw [hF] at p'; exact PostS.rebase (c := c) (o := .er r2 n ns vs) (E := E) ok3.fwd p'
          | bad => rw [hF] at p'; exact p'.elim
      · rintro σ' H' ⟨S', r', e1, ok', p'⟩
        rw [List.drop_length] at p'
        exact p' σ' S' H' ok'
end
end Dx

end S_DxE
section S_DxF
set_option Elab.async false
set_option linter.all false
set_option maxRecDepth 100000
set_option maxHeartbeats 2000000
/-! Dx, part F: comprehensions, while, defs and their calls. -/
namespace Dx
open PySem L2

/-! ### comprehensions -/
def wipeR (r : Rho) : List Nat → Rho
  | [] => r
  | v :: vs => (wipeR r vs).set v none
theorem wipeR_len (r : Rho) : ∀ vs : List Nat, (wipeR r vs).length = r.length
  | [] => rfl
  | v :: vs => by show ((wipeR r vs).set v none).length = _; rw [List.length_set, wipeR_len r vs]
theorem wipeR_some {r : Rho} {i : Nat} {d : D} : ∀ {vs : List Nat}, (wipeR r vs)[i]? = some (some d) → r[i]? = some (some d) ∧ i ∉ vs
  | [], h => ⟨h, by simp⟩
  | v :: vs, h => by
    rcases set_some (l := wipeR r vs) h with ⟨_, e, _⟩ | ⟨ne, h⟩
    · cases e
    · obtain ⟨h1, h2⟩ := wipeR_some h
      exact ⟨h1, by simp [Ne.symm ne, h2]⟩
/-- within a comprehension nothing is raised -/
abbrev Cf.calm (c : Cf) : Cf := ⟨c.K, c.cm, fun _ _ _ _ => False, none, c.rm⟩
section
variable {X : Cx} {c : Cf} {L G G' : List Ow} {σ : St} {S0 H0 S H : Hp} {r : Rho}
theorem EnvOk.wiped (e : EnvOk c S0 H0 G S H σ r) (vs : List Nat) : EnvOk c.calm S0 H0 G S H (wipe σ vs) (wipeR r vs) := by
  refine ⟨e.fwd, by rw [wipe_length, wipeR_len, e.len], fun i d h => ?_, fun i j d d' p hi hj ki kj si sj => ?_, let ⟨A, hA⟩ := e.sto; ⟨A, hA.sub (fun a ha => (hA.out a ha).1) (fun _ _ => rfl) Ex.refl (fun i d p hi ki si => hA.own i d p (wipeR_some hi).1 ki (wipe_some si).1) fun i d ki hi => ⟨rfl, (wipeR_some hi).1, by rw [wipe_get, if_neg (wipeR_some hi).2]⟩⟩⟩
  · obtain ⟨h1, h2⟩ := wipeR_some h
    obtain ⟨v, h3, h4⟩ := e.slot i d h1
    exact ⟨v, by rw [wipe_get, if_neg h2]; exact h3, h4⟩
  · exact e.sep i j d d' p (wipeR_some hi).1 (wipeR_some hj).1 ki kj (wipe_some si).1 (wipe_some sj).1
theorem Fwd.put {S' H' : Hp} {p : Addr} {o : HO} (f : Fwd S H S' H') (n : H p = none) (ns : S' p = none) : Fwd S H S' (upd H' p o) := ⟨f.s, f.h.put n, f.sub.put ns, f.new⟩
def lcLoop (t : D → Rho → Res Rho) (tt : Rho → Res Bool) (fe : Rho → Res D) (rw : Rho) : List D → Res (List D)
  | [] => .ok []
  | d :: ds => match t d rw with
    | .ok r1 => match tt r1 with
      | .ok true => match fe r1 with
        | .ok x => match lcLoop t tt fe rw ds with
          | .ok xs => .ok (x :: xs)
          | _ => .bad
        | _ => .bad
      | .ok false => lcLoop t tt fe rw ds
      | _ => .bad
    | _ => .bad
noncomputable def dLc (its : Rho → Res (List D)) (t : D → Rho → Res Rho) (tt : Rho → Res Bool) (fe : Rho → Res D) (vs : List Nat) : Rho → Res D := fun r => (its r).bind fun ds => guard (ds.length ≤ sizeLine) (match lcLoop t tt fe (wipeR r vs) ds with
  | .ok xs => .ok (.lst xs)
  | _ => .bad)
def dYes : Rho → Res Bool := fun _ => .ok true
theorem lc_rd {its : Rho → Res (List D)} {t : D → Rho → Res Rho} {tt : Rho → Res Bool} {fe : Rho → Res D} {vs : List Nat} : ∀ σ H Q, tO c G (dLc its t tt fe vs) σ H Q →
    tLc (iD c G its) (gD c.calm G G' vs t) (tT c.calm G' tt) (tV c.calm G' fe) vs σ H Q := fun σ H Q ⟨S0, H0, S, r, ok, p⟩ => by
  refine ⟨S0, H0, S, r, ok, p.unbind.imp fun ds S1 H1 w1 p1 J gv Dl hD => ?_⟩
  obtain ⟨hl, p1⟩ := p1.gd
  obtain ⟨Gd, Y, wk, hG, hY⟩ := gv
  have ok1 := ok.go w1
  split at p1
  · rename_i res hres
    have okw := ok1.wiped vs
    have nS : S1 Dl = none := ok1.ex.nn hD
    refine lc_it wk (fun i H' => ∃ S' acc accD rest, Fwd S1 H1 S' H' ∧ S' Dl = none ∧ H' Dl = some (.lst acc) ∧ RpA c.K c.cm S' acc accD ∧ lcLoop t tt fe (wipeR r vs) (ds.drop i) = .ok rest ∧ accD ++ rest = res ∧ accD.length ≤ i)
      ⟨S1, [], [], res, Fwd.heap ok1.ex hD, nS, upd_same, .nil, by rw [List.drop_zero]; exact hres, rfl, Nat.le_refl _⟩ ?_ ?_ ?_
    · rintro i H' _ ⟨S', acc, accD, rest, fw, _⟩
      exact hG S' H' fw.s fw.sub (ok1.fwd.h.trans fw.h)
    · rintro i x H' H2 hi ⟨S', acc, accD, rest, fw, n1, h1, r1, hr, ha, hn⟩ y
      obtain ⟨S2, d, fw2, hd, hx⟩ := hY i S' H' x H2 hi fw.s fw.sub y
      have hdrop : ds.drop i = d :: ds.drop (i + 1) := by
        rw [List.drop_eq_getElem_cons hi]
        rw [List.getElem?_eq_getElem hi] at hd
        cases hd; rfl
      rw [hdrop] at hr
      unfold lcLoop at hr
      refine ⟨S0, H0, S2, wipeR r vs, d, okw.go (fw.trans fw2), hx, ?_⟩
      cases ht : t d (wipeR r vs) with
      | err _ _ _ => rw [ht] at hr; cases hr
      | bad => rw [ht] at hr; cases hr
      | ok r2 =>
        rw [ht] at hr
        dsimp only at hr
        intro σ3 z3 ok3
        have hz : L2.wipe (L2.wipe σ vs) vs = L2.wipe σ vs := by
          apply List.ext_getElem?
          intro k
          rw [wipe_get, wipe_get]
          split
          · cases σ[k]? <;> rfl
          · rfl
        have keepN : ∀ S4 H4, Fwd S' H' S4 H4 → S4 Dl = none := fun S4 H4 f4 => by
          cases q : S4 Dl with
          | none => rfl
          | some u => rw [f4.new Dl u q n1] at h1; cases h1
        refine ⟨z3.trans hz, S0, H0, S2, r2, ok3, ?_⟩
        cases htt : tt r2 with
        | err _ _ _ => rw [htt] at hr; cases hr
        | bad => rw [htt] at hr; cases hr
        | ok b =>
          rw [htt] at hr
          intro S4 H4 w4 b' hb
          cases hb
          have f4 := fw2.trans w4
          cases b with
          | false =>
            dsimp only at hr
            rw [if_neg (by decide)]
            exact ⟨S4, acc, accD, rest, fw.trans f4, keepN S4 H4 f4, f4.h _ _ h1, r1.mono f4.s, hr, ha, Nat.le_succ_of_le hn⟩
          | true =>
            dsimp only at hr
            rw [if_pos rfl]
            refine ⟨S0, H0, S4, r2, ok3.go w4, ?_⟩
            cases hfe : fe r2 with
            | err _ _ _ => rw [hfe] at hr; cases hr
            | bad => rw [hfe] at hr; cases hr
            | ok x2 =>
              rw [hfe] at hr
              dsimp only at hr
              cases hlc : lcLoop t tt fe (wipeR r vs) (ds.drop (i + 1)) with
              | err _ _ _ => rw [hlc] at hr; cases hr
              | bad => rw [hlc] at hr; cases hr
              | ok xs2 =>
                rw [hlc] at hr
                cases hr
                intro S5 H5 w5 y5 hy5
                have f5 := f4.trans w5
                refine ⟨acc, f5.h _ _ h1, ?_, S5, acc ++ [y5], accD ++ [x2], xs2, (fw.trans f5).put hD (keepN S5 H5 f5), keepN S5 H5 f5, upd_same, (r1.mono f5.s).app (.one hy5), rfl, ?_, ?_⟩
                · rw [r1.length]; omega
                · rw [← ha, List.append_assoc]; rfl
                · simp; omega
    · rintro H' ⟨S', acc, accD, rest, fw, n1, h1, r1, hr, ha, hn⟩
      rw [List.drop_length] at hr
      cases hr
      rw [List.append_nil] at ha
      subst ha
      exact p1 S' H' fw _ ⟨Dl, .lst acc, rfl, w1.h.nn hD, n1, h1, .lst r1⟩
  · exact p1.elim
theorem de_lc {elt tg iter : Expr} {ifs : List Expr} {scope : Scope} {own : List (Str × Nat)} {pos : Pos} {its : Rho → Res (List D)} {t : D → Rho → Res Rho} {tt : Rho → Res Bool} {fe : Rho → Res D} (hc : X.calm = true) (hN : X.N.Nodup) (hi : PI X tg iter (iD c G its)) (ok : BlkOk X.N X.env.scope scope own)
    (hg : ∀ (s : Shared) (H : Hp) (C : Addr) (cl : List (Str × Addr)) (fp : List Addr), PG (X.blk s H scope (compEnvC scope cl C X.env) fp) tg (gD c.calm G G' (own.map (·.2)) t)) (ht : ∀ (s : Shared) (H : Hp) (C : Addr) (cl : List (Str × Addr)) (fp : List Addr), PTs (X.blk s H scope (compEnvC scope cl C X.env) fp) ifs (tT c.calm G' tt))
    (he : ∀ (s : Shared) (H : Hp) (C : Addr) (cl : List (Str × Addr)) (fp : List Addr), PE (X.blk s H scope (compEnvC scope cl C X.env) fp) elt (tV c.calm G' fe)) (hs : ∀ x, foldedSetIterable iter X.env x = pure x := by intro _; rfl) :
    PE X (.ListComp elt [⟨tg, iter, ifs, 0⟩] scope pos) (tO c G (dLc its t tt fe (own.map (·.2)))) := pe_imp (pe_lc hc hN hi ok hg ht he hs) lc_rd
/-- name = [..] on one line, the name a local -/
theorem ds_setLc (i : Nat) {y : Str} {py : Pos} {elt tg iter : Expr} {ifs : List Expr} {scope : Scope} {own : List (Str × Nat)} {pos spos : Pos} {its : Rho → Res (List D)} {t : D → Rho → Res Rho} {tt : Rho → Res Bool} {fe : Rho → Res D} (hgk : Gok c G) (hG : i < G.length) (hc : X.calm = true) (hN : X.N.Nodup) (hy : X.N[i]? = some y) (hyl : X.env.scope.names.lookup y = some .local)
    (hsw : swapsWith (.ListComp elt [⟨tg, iter, ifs, 0⟩] scope pos) (some (.Name y py)) spos.line X.env = pure true) (hi : PI X tg iter (iD c G its)) (ok : BlkOk X.N X.env.scope scope own)
    (hg : ∀ (s : Shared) (H : Hp) (C : Addr) (cl : List (Str × Addr)) (fp : List Addr), PG (X.blk s H scope (compEnvC scope cl C X.env) fp) tg (gD c.calm G G' (own.map (·.2)) t)) (ht : ∀ (s : Shared) (H : Hp) (C : Addr) (cl : List (Str × Addr)) (fp : List Addr), PTs (X.blk s H scope (compEnvC scope cl C X.env) fp) ifs (tT c.calm G' tt))
    (he : ∀ (s : Shared) (H : Hp) (C : Addr) (cl : List (Str × Addr)) (fp : List Addr), PE (X.blk s H scope (compEnvC scope cl C X.env) fp) elt (tV c.calm G' fe)) (hs : ∀ x, foldedSetIterable iter X.env x = pure x := by intro _; rfl) :
    PS X (.Assign [.Name y py] (.ListComp elt [⟨tg, iter, ifs, 0⟩] scope pos) spos) (sD c L G (G.set i .o) (setF i (dLc its t tt fe (own.map (·.2))))) :=
  ps_imp (ps_setLc hc hN hy hyl hsw hi ok hg ht he hs) fun E σ H ⟨S0, H0, S, r, ok, p⟩ => lc_rd σ H _ (st_seq hgk ok p fun d v S1 H1 w1 o1 m1 p1 => by
    obtain ⟨q, ho, rfl, n, ns, hp, h⟩ := m1
    exact p1 _ S1 H1 (ok.setO w1 i hG n ns hp h))
theorem dt_nil : PTs X [] (tT c G dYes) := ⟨fun pins s σ H Q I ⟨S0, H0, S, r, ok, p⟩ => pts_nil.run pins s σ H Q I (p.go ok.ex _ rfl)⟩
theorem dt_one {cnd : Expr} {tt : Rho → Res Bool} (h : PT X cnd (tT c G tt)) : PTs X [cnd] (tT c G tt) := pts_one h
/-! ### while -/
def whileN (t : Rho → Res Bool) (F : Rho → SR) : Nat → Rho → SR
  | 0, _ => .bad
  | n + 1, r => liftS r (t r) fun b => if b = true then (match F r with
    | .nx r' => whileN t F n r'
    | .ct r' => whileN t F n r'
    | .bk r' => .nx r'
    | o => o) else .nx r
theorem ds_while {cnd : Expr} {body : List Stmt} {pos : Pos} {t : Rho → Res Bool} {F : Rho → SR} (n : Nat) (hg : Gok c G) (hp : PassesOwn (model X.prog X.w) X.A X.env X.xe) (hc : PT X cnd (tT c G t)) (hb : PSs X body (sD c G G G F)) :
    PS X (.While cnd body [] pos) (sD c L G G (whileN t F n)) := ps_imp (ps_while hp hc hb) fun E σ H ⟨S0, H0, S, r, ok, p⟩ => by
  refine ⟨fun m σ' H' => ∃ S' r', EnvOk c S0 H0 G S' H' σ' r' ∧ PostS c S0 H0 L G (whileN t F m r') E, ⟨n, S, r, ok, p⟩, ?_⟩
  rintro m σ1 H1 ⟨S1, r1, ok1, p1⟩
  cases m with
  | zero => exact p1.elim
  | succ m =>
    refine st_seq hg ok1 p1 fun b v S2 H2 w2 o2 m2 p2 => ?_
    rw [show v = b from m2]
    cases b with
    | false => exact p2 σ1 S2 H2 o2
    | true =>
      have p2 : PostS c S0 H0 L G (match F r1 with
        | .nx r' => whileN t F m r'
        | .ct r' => whileN t F m r'
        | .bk r' => .nx r'
        | o => o) E := p2
      rw [if_pos rfl]
      refine ⟨fun σ3 H3 => ∃ S3 r3, EnvOk c S0 H0 G S3 H3 σ3 r3 ∧ PostS c S0 H0 L G (whileN t F m r3) E, fun σ3 H3 h => ⟨m, Nat.lt_succ_self m, h⟩, S0, H0, S2, r1, o2, ?_⟩
      cases hF : F r1 with
      | nx r2 => rw [hF] at p2; exact fun σ4 S4 H4 e4 => ⟨S4, r2, e4, p2⟩
      | ct r2 => rw [hF] at p2; exact fun σ4 S4 H4 e4 => ⟨S4, r2, e4, p2⟩
      | bk r2 => rw [hF] at p2; exact fun σ4 S4 H4 e4 => p2 σ4 S4 H4 e4
      | rt d => rw [hF] at p2; exact p2
      | er r2 n ns vs => rw [hF] at p2; exact p2
      | bad => rw [hF] at p2; exact p2.elim
end

/-! ### what a def promises, by data -/
/-- the mode of its result: own, or a value -/
def mR (c : Cf) (rm : Bool) : Md V D := if rm then mO c else mV c
instance {c : Cf} {rm : Bool} : Anti (mR c rm) := by
  cases rm with
  | true => exact (inferInstance : Anti (mO c))
  | false => exact (inferInstance : Anti (mV c))
/-- F by data; ms the arguments' modes; rm whether the result is a new object that nothing else holds -/
def spD (K : PySem.W.Frag) (cm : CM) (ms : List Bool) (rm : Bool) (F : List D → Res D) : Sp := fun vs H Q E => ∃ S ds, Ex S H ∧ RpM ⟨K, cm, fun _ _ _ _ => False, none, rm⟩ S H ms vs ds ∧
  PostG ⟨K, cm, fun cls d _ H => E cls d H, none, rm⟩ [] S H (F ds) fun a S' H' => ∀ b, mR ⟨K, cm, fun _ _ _ _ => False, none, rm⟩ rm H S' H' b a → Q b H'
section
variable {X : Cx} {c : Cf} {L G G' : List Ow} {k : Nat} {f : Addr} {fd : FuncData} {ps : List Str} {x : Str} {p pos : Pos} {e : Expr} {es : List Expr} {fs : Rho → Res (List D)} {ms : List Bool} {rm : Bool} {F : List D → Res D}
theorem RpM.cf {c c' : Cf} {S H : Hp} (hK : c.K = c'.K) (hm : c.cm = c'.cm) : ∀ {ms : List Bool} {vs : List V} {ds : List D}, RpM c S H ms vs ds → RpM c' S H ms vs ds
  | [], [], [], _ => trivial
  | true :: ms, v :: vs, d :: ds, h => ⟨by rw [← hK, ← hm]; exact h.1, RpM.cf hK hm h.2⟩
  | false :: ms, v :: vs, d :: ds, h => ⟨by rw [← hK, ← hm]; exact h.1, RpM.cf hK hm h.2⟩
  | [], _ :: _, _, h => h.elim
  | [], [], _ :: _, h => h.elim
  | true :: _, [], _, h => h.elim
  | true :: _, _ :: _, [], h => h.elim
  | false :: _, [], _, h => h.elim
  | false :: _, _ :: _, [], h => h.elim
theorem call_rd {E : XK} {σ : St} {S H : Hp} {vs : List V} {ds : List D} {Q : VK} (hE : ∀ cls d H, c.W cls d σ H → E cls d H) (ex : Ex S H) (m : RpM c S H ms vs ds)
    (q : PostG c σ S H (F ds) fun a S' H' => ∀ b, mR c rm H S' H' b a → Q b H') : spD c.K c.cm ms rm F vs H Q E := by
  refine ⟨S, ds, ex, RpM.cf (c := c) (c' := ⟨c.K, c.cm, fun _ _ _ _ => False, none, rm⟩) rfl rfl m, ?_⟩
  cases hF : F ds with
  | ok a =>
    rw [hF] at q
    intro S' H' w b hb
    refine q S' H' w b ?_
    cases rm with
    | true => exact hb
    | false => exact hb
  | err n ns vs => rw [hF] at q; exact fun C dd S' H' fs h1 w h2 h3 h4 => hE _ _ _ (q C dd S' H' fs h1 w h2 h3 h4)
  | bad => rw [hF] at q; exact q.elim
/-- f(e, ..), f a def of the text -/
theorem de_call (F1 : FnOk X.prog X.w X.K X.mg X.base (L2.CX X.prog X.w) k f fd ps (spD c.K c.cm ms rm F)) (tk : Takes X c.W) (hr : Room k X.A) (hg : Gl X x) (hm : X.mg x = some (.ref f)) (hk : PySem.W.keepIn X.K (.ref f) = true) (hb : Binds X.K fd ps [])
    (ha : PA X (e :: es) (tM c G ms fs)) (hdb : (x == ("__debug__" : Str)) = false := by decide) (he : starEach (e :: es) X.env = (false, eval e X.env) :: starEach es X.env := by rfl) (hpl : (backTo pos (starEach es X.env)).any (·.1) = false := by rfl) :
    PE X (.Call (.Name x p) (e :: es) [] pos) (rd c G (dCall F fs) (mR c rm)) :=
  pe_imp (pe_callSD (E := fun σ cls d H => c.W cls d σ H) F1 hr hg hm hk hb .nil (fun σ => passAt tk σ) ha hdb he hpl) fun σ H Q ⟨S0, H0, S, r, ok, q⟩ => rd_seq ok q fun ds vs S1 H1 w1 o1 m1 p1 => by
    rw [List.append_nil]
    exact call_rd (fun _ _ _ h => h) o1.ex m1 (p1.anti w1.h)
theorem de_callV (F1 : FnOk X.prog X.w X.K X.mg X.base (L2.CX X.prog X.w) k f fd ps (spD c.K c.cm ms false F)) (tk : Takes X c.W) (hr : Room k X.A) (hg : Gl X x) (hm : X.mg x = some (.ref f)) (hk : PySem.W.keepIn X.K (.ref f) = true) (hb : Binds X.K fd ps [])
    (ha : PA X (e :: es) (tM c G ms fs)) (hdb : (x == ("__debug__" : Str)) = false := by decide) (he : starEach (e :: es) X.env = (false, eval e X.env) :: starEach es X.env := by rfl) (hpl : (backTo pos (starEach es X.env)).any (·.1) = false := by rfl) :
    PE X (.Call (.Name x p) (e :: es) [] pos) (tV c G (dCall F fs)) := de_call F1 tk hr hg hm hk hb ha hdb he hpl
theorem de_callO (F1 : FnOk X.prog X.w X.K X.mg X.base (L2.CX X.prog X.w) k f fd ps (spD c.K c.cm ms true F)) (tk : Takes X c.W) (hr : Room k X.A) (hg : Gl X x) (hm : X.mg x = some (.ref f)) (hk : PySem.W.keepIn X.K (.ref f) = true) (hb : Binds X.K fd ps [])
    (ha : PA X (e :: es) (tM c G ms fs)) (hdb : (x == ("__debug__" : Str)) = false := by decide) (he : starEach (e :: es) X.env = (false, eval e X.env) :: starEach es X.env := by rfl) (hpl : (backTo pos (starEach es X.env)).any (·.1) = false := by rfl) :
    PE X (.Call (.Name x p) (e :: es) [] pos) (tO c G (dCall F fs)) := de_call F1 tk hr hg hm hk hb ha hdb he hpl
/-! ### a def by its body -/
def startR (n : Nat) (ds : List D) : Rho := ds.map some ++ List.replicate (n - ds.length) none
def G0 (ms : List Bool) (n : Nat) : List Ow := ms.map (fun m => if m then .b else .v) ++ List.replicate (n - ms.length) .v
def runF (n : Nat) (rm : Bool) (Fb : Rho → SR) (ds : List D) : Res D := match Fb (startR n ds) with
  | .rt d => .ok d
  | .nx _ => if rm then .bad else .ok .non
  | .er _ n ns vs => .err n ns vs
  | _ => .bad
theorem RpM.get {S H : Hp} : ∀ {ms : List Bool} {vs : List V} {ds : List D} {i : Nat} {d : D}, RpM c S H ms vs ds → ds[i]? = some d → ∃ v m, vs[i]? = some v ∧ ms[i]? = some m ∧ SlotOk c H S H (if m then .b else .v) v d
  | [], [], [], _, _, _, h => by simp at h
  | true :: ms, v :: vs, d :: ds, 0, e, h, q => by simp at q; subst q; exact ⟨v, true, by simp, by simp, h.1⟩
  | false :: ms, v :: vs, d :: ds, 0, e, h, q => by simp at q; subst q; exact ⟨v, false, by simp, by simp, h.1⟩
  | true :: ms, v :: vs, d :: ds, i + 1, e, h, q => by
    obtain ⟨v, m, h1, h2, h3⟩ := RpM.get (i := i) h.2 (by simpa using q)
    exact ⟨v, m, by simpa using h1, by simpa using h2, h3⟩
  | false :: ms, v :: vs, d :: ds, i + 1, e, h, q => by
    obtain ⟨v, m, h1, h2, h3⟩ := RpM.get (i := i) h.2 (by simpa using q)
    exact ⟨v, m, by simpa using h1, by simpa using h2, h3⟩
  | [], _ :: _, _, _, _, h, _ => h.elim
  | [], [], _ :: _, _, _, h, _ => h.elim
  | true :: _, [], _, _, _, h, _ => h.elim
  | true :: _, _ :: _, [], _, _, h, _ => h.elim
  | false :: _, [], _, _, _, h, _ => h.elim
  | false :: _, _ :: _, [], _, _, h, _ => h.elim
theorem RpM.len {S H : Hp} : ∀ {ms : List Bool} {vs : List V} {ds : List D}, RpM c S H ms vs ds → vs.length = ms.length ∧ ds.length = ms.length
  | [], [], [], _ => ⟨rfl, rfl⟩
  | true :: ms, v :: vs, d :: ds, h => by have := RpM.len h.2; simp [this.1, this.2]
  | false :: ms, v :: vs, d :: ds, h => by have := RpM.len h.2; simp [this.1, this.2]
  | [], _ :: _, _, h => h.elim
  | [], [], _ :: _, h => h.elim
  | true :: _, [], _, h => h.elim
  | true :: _, _ :: _, [], h => h.elim
  | false :: _, [], _, h => h.elim
  | false :: _, _ :: _, [], h => h.elim
theorem kd_G0 {ms : List Bool} {n i : Nat} : kd (G0 ms n) i ≠ .o := by
  unfold kd G0
  rw [List.getD_eq_getElem?_getD, List.getElem?_append]
  split
  · rw [List.getElem?_map]
    cases ms[i]? with
    | none => intro h; cases h
    | some m => cases m <;> (intro h; cases h)
  · rw [List.getElem?_replicate]
    split <;> (intro h; cases h)
theorem kd_G0_sw {ms : List Bool} {n i : Nat} : kd (G0 ms n) i ≠ .s ∧ kd (G0 ms n) i ≠ .w := by
  unfold kd G0
  rw [List.getD_eq_getElem?_getD, List.getElem?_append]
  split
  · rw [List.getElem?_map]
    cases ms[i]? with
    | none => exact ⟨fun h => (by cases h), fun h => (by cases h)⟩
    | some m => cases m <;> exact ⟨fun h => (by cases h), fun h => (by cases h)⟩
  · rw [List.getElem?_replicate]
    split <;> exact ⟨fun h => (by cases h), fun h => (by cases h)⟩
theorem kd_G0_at {ms : List Bool} {n i : Nat} {m : Bool} (h : ms[i]? = some m) : kd (G0 ms n) i = if m then .b else .v := by
  unfold kd G0
  have hl : i < ms.length := (List.getElem?_eq_some_iff.mp h).1
  rw [List.getD_eq_getElem?_getD, List.getElem?_append, if_pos (by simpa using hl), List.getElem?_map, h]
  rfl
theorem startR_some {n i : Nat} {ds : List D} {d : D} (h : (startR n ds)[i]? = some (some d)) : ds[i]? = some d := by
  unfold startR at h
  rw [List.getElem?_append] at h
  split at h
  · rw [List.getElem?_map] at h
    cases q : ds[i]? with
    | none => rw [q] at h; cases h
    | some e => rw [q] at h; cases h; rfl
  · rw [List.getElem?_replicate] at h
    split at h <;> cases h
theorem env_start {N : List Str} {S H : Hp} {vs : List V} {ds : List D} (ex : Ex S H) (m : RpM c S H ms vs ds) (hn : ms.length ≤ N.length) : EnvOk c S H (G0 ms N.length) S H (L2.start N vs) (startR N.length ds) := by
  have hl := m.len
  refine ⟨Fwd.refl ex, by unfold L2.start startR; simp [hl.1, hl.2], fun i d h => ?_, fun i j d e p _ _ k _ _ _ => absurd k kd_G0, ⟨[], .nil fun _ _ _ => kd_G0_sw⟩⟩
  have hd := startR_some h
  obtain ⟨v, mm, h1, h2, h3⟩ := m.get hd
  refine ⟨v, ?_, by rw [kd_G0_at h2]; exact h3⟩
  unfold L2.start
  have hlt : i < vs.length := (List.getElem?_eq_some_iff.mp h1).1
  rw [List.getElem?_append, if_pos (by simpa using hlt), List.getElem?_map, h1]
  rfl
end
section
variable {P : Program} {w : World} {K : PySem.W.Frag} {mg : Str → Option Value} {base : Heap} {cm : CM}
abbrev cfE (K : PySem.W.Frag) (cm : CM) (rm : Bool) (E : XK) : Cf := ⟨K, cm, fun cls d _ H => E cls d H, none, rm⟩
/-- THE RULE for a def: its body by data -/
theorem dok {x qual : Str} {st : Stmt} {f : Addr} {fd : FuncData} {N ps : List Str} {k : Nat} {ms : List Bool} {rm : Bool} {G' : List Ow} {Fb : Rho → SR} (F : Fun K x qual st f fd) (S : FnScope N ps (defScope st)) (hm : ms.length = ps.length) (hn : ps.length ≤ N.length)
    (hb : ∀ (cdv : Value) (A : Around) (outer : List Env) (s : Shared) (H : Hp) (E : XK), Room k (A.deeper (PyProof.Rows.envOfC qual (defScope st) s.heap.objs.size f cdv)) →
      PSs (cxOf (L2.CX P w) P w K mg base N qual (defScope st) f cdv A outer s H E) (defBody st) (sD (cfE K cm rm E) [] (G0 ms N.length) G' Fb)) :
    FnOk P w K mg base (L2.CX P w) (k + 1) f fd ps (spD K cm ms rm (runF N.length rm Fb)) := by
  refine F.okX S (fun vs H Q E h => ?_) (fun cdv A outer s H vs Q E hr h => ?_)
  · obtain ⟨S, ds, _, m, _⟩ := h
    rw [m.len.1, hm]
  · obtain ⟨S, ds, ex, m, q⟩ := h
    refine ⟨_, hb cdv A outer s H E hr, S, H, S, startR N.length ds, env_start ex (RpM.cf (c := ⟨K, cm, fun _ _ _ _ => False, none, rm⟩) (c' := cfE K cm rm E) rfl rfl m) (by omega), ?_⟩
    unfold runF at q
    cases hF : Fb (startR N.length ds) with
    | rt d =>
      rw [hF] at q
      show PostS _ _ _ _ _ (.rt d) _
      unfold PostS
      dsimp only
      cases rm with
      | true => exact fun p ho S' H' fw n ns hp hh => q S' H' fw _ ⟨p, ho, rfl, n, ns, hp, hh⟩
      | false => exact fun v S' H' fw hv => q S' H' fw v hv
    | nx r =>
      rw [hF] at q
      cases rm with
      | true => exact q.elim
      | false => exact fun σ' S' H' ok => q S' H' ok.fwd _ Rp.non
    | er r n ns vs =>
      rw [hF] at q
      exact fun C dd σ' S' H' fs h1 fw _ h2 h3 h4 => q C dd S' H' fs h1 fw h2 h3 h4
    | bk r => rw [hF] at q; exact q.elim
    | ct r => rw [hF] at q; exact q.elim
    | bad => rw [hF] at q; exact q.elim
end
end Dx

end S_DxF
section S_DxG
set_option Elab.async false
set_option linter.all false
set_option maxRecDepth 100000
set_option maxHeartbeats 2000000
/-! Dx, part G: raise, try, what is caught. -/
namespace Dx
open PySem L2

section
variable {X : Cx} {c : Cf} {L G G' : List Ow}
/-! ### an own exception class with one field, with two: its __init__ -/
def spX1 (K : PySem.W.Frag) (C : Addr) (f : Str) : Sp := fun vs H Q _ => ∃ (a : Addr) (w : V), vs = [.ref a, w] ∧ OexC K C ∧ PySem.W.findIn K (.ref C) f = some none ∧ H a = some (exo a C none) ∧
  ∀ d, H d = none → d ≠ a → Q .non (upd (upd H d (exd d [(f, w)])) a (exo a C (some d)))
def spX2 (K : PySem.W.Frag) (C : Addr) (f g : Str) : Sp := fun vs H Q _ => ∃ (a : Addr) (w u : V), vs = [.ref a, w, u] ∧ OexC K C ∧ PySem.W.findIn K (.ref C) f = some none ∧ PySem.W.findIn K (.ref C) g = some none ∧ H a = some (exo a C none) ∧
  ∀ d, H d = none → d ≠ a → Q .non (upd (upd (upd H d (exd d [(f, w)])) a (exo a C (some d))) d (exd d [(g, u), (f, w)]))
theorem xinit1 {P : Program} {w : World} {K : PySem.W.Frag} {mg : Str → Option Value} {base : Heap} {qual : Str} {st : Stmt} {fI C : Addr} {fd : FuncData} {N ps : List Str} {fl : Str} (F : Fun K "__init__" qual st fI fd) (S : FnScope N ps (defScope st)) (hl : ps.length = 2) (hN : N.length = 2)
    (hb : ∀ (cdv : Value) (A : Around) (outer : List Env) (s : Shared) (H : Hp) (E : XK), PSs (cxOf (L2.CX P w) P w K mg base N qual (defScope st) fI cdv A outer s H E) (defBody st) (tOst K fl (tVar 0) (tVar 1))) :
    FnOk P w K mg base (L2.CX P w) 1 fI fd ps (spX1 K C fl) := by
  refine F.okX (k := 0) S (fun vs H Q E h => ?_) (fun cdv A outer s H vs Q E hr h => ?_)
  · obtain ⟨a, w, rfl, _⟩ := h; exact hl.symm
  · obtain ⟨a, w', rfl, T, hno, ha, q⟩ := h
    refine ⟨_, hb cdv A outer s H E, ?_⟩
    have e : L2.start N [.ref a, w'] = [some (.ref a), some w'] := by unfold L2.start; rw [hN]; rfl
    rw [e]
    exact ⟨w', rfl, .ref a, rfl, a, C, rfl, T, hno, .inl ⟨ha, q⟩⟩
theorem xinit2 {P : Program} {w : World} {K : PySem.W.Frag} {mg : Str → Option Value} {base : Heap} {qual : Str} {st : Stmt} {fI C : Addr} {fd : FuncData} {N ps : List Str} {fl gl : Str} (F : Fun K "__init__" qual st fI fd) (S : FnScope N ps (defScope st)) (hl : ps.length = 3) (hN : N.length = 3)
    (hb : ∀ (cdv : Value) (A : Around) (outer : List Env) (s : Shared) (H : Hp) (E : XK), PSs (cxOf (L2.CX P w) P w K mg base N qual (defScope st) fI cdv A outer s H E) (defBody st) (tSeq (tOst K fl (tVar 0) (tVar 1)) (tOst K gl (tVar 0) (tVar 2)))) :
    FnOk P w K mg base (L2.CX P w) 1 fI fd ps (spX2 K C fl gl) := by
  refine F.okX (k := 0) S (fun vs H Q E h => ?_) (fun cdv A outer s H vs Q E hr h => ?_)
  · obtain ⟨a, w, u, rfl, _⟩ := h; exact hl.symm
  · obtain ⟨a, w', u, rfl, T, hno, hno2, ha, q⟩ := h
    refine ⟨_, hb cdv A outer s H E, ?_⟩
    have e : L2.start N [.ref a, w', u] = [some (.ref a), some w', some u] := by unfold L2.start; rw [hN]; rfl
    rw [e]
    refine ⟨w', rfl, .ref a, rfl, a, C, rfl, T, hno, .inl ⟨ha, fun d hd hne => ?_⟩⟩
    exact ⟨u, rfl, .ref a, rfl, a, C, rfl, T, hno2, .inr ⟨d, [(fl, w')], upd_same, by rw [upd_ne hne, upd_same], by show 1 ≤ 900; decide, q d hd hne⟩⟩
/-! ### raise X(e), raise X(e, e') -/
def raiF (n : Str) (ns : List Str) (rev : Bool) (fs : Rho → Res (List D)) : Rho → SR := fun r => liftS r (fs r) fun ds => if ds.length = ns.length then .er r n ns (if rev then ds.reverse else ds) else .bad
variable {e e2 : Expr} {fs : Rho → Res (List D)} {x n : Str} {C fI : Addr} {fd : FuncData} {ps : List Str} {p p' pos : Pos} {fl gl : Str}
theorem heap_x1 {H1 : Hp} {a d C : Addr} {o1 o2 o3 o4 o : HO} (ha : H1 a = none) (hne : d ≠ a) : upd (del (upd (upd (upd H1 a o1) d o2) a o3) a) d o = upd H1 d o := by
  funext b
  by_cases hb : b = d
  · subst hb; rw [upd_same, upd_same]
  · rw [upd_ne hb, upd_ne hb]
    by_cases hba : b = a
    · subst hba; rw [del_same, ha]
    · rw [del_ne hba, upd_ne hba, upd_ne hb, upd_ne hba]
theorem ds_raise1 (hg : Gok c G) (hcn : c.cm n = some C) (hc : X.calm = true) (tk : Takes X c.W) (T : OexC X.K C) (iC : PySem.W.findIn X.K (.ref C) "__init__" = some (some (.ref fI))) (tI : PySem.W.typeIn X.K (.ref fI) = some (.type "function")) (hno : PySem.W.findIn X.K (.ref C) fl = some none)
    (F1 : FnOk X.prog X.w X.K X.mg X.base (L2.CX X.prog X.w) 1 fI fd ps (spX1 X.K C fl)) (hr : Room 2 X.A) (hb : Binds X.K fd ps []) (hgx : Gl X x) (hm : X.mg x = some (.ref C)) (ha : PA X [e] (tAs c G fs))
    (hdb : (x == ("__debug__" : Str)) = false := by decide) (he : starEach [e] X.env = (false, eval e X.env) :: starEach [] X.env := by rfl) :
    PS X (.Raise (some (.Call (.Name x p) [e] [] p')) none pos) (sD c L G G' (raiF n [fl] false fs)) :=
  ps_imp (ps_raise hc tk (pmk_oex T iC tI F1 hr hb .nil passL hgx hm ha hdb he rfl)) fun E σ H ⟨S0, H0, S, r, ok, q⟩ => st_seq hg ok q fun ds vs S1 H1 w1 o1 m1 p1 => by
    obtain ⟨hl, p1⟩ := p1.ite
    match ds, vs, m1, hl with
    | [d1], [v1], .cons hv .nil, _ =>
      refine ⟨by show 1 ≤ 1000; decide, fun a na => ⟨a, v1, rfl, T, hno, upd_same, fun d hd hne => ⟨rfl, d, [(fl, v1)], upd_same, by rw [upd_ne hne, upd_same], by rw [upd_ne hne] at hd; exact hd, ?_⟩⟩⟩
      rw [upd_ne hne] at hd
      rw [heap_x1 (C := C) (o4 := .lst []) na hne]
      exact p1 C d σ (upd S1 d (.xd [(fl, v1)])) _ [(fl, v1)] hcn (o1.fwd.trans (Fwd.both o1.ex hd)) (fun g hgg => by rw [hg g hgg]; exact o1.go (Fwd.both o1.ex hd)) upd_same rfl (.cons (hv.mono (Ex.new (o1.ex.nn hd))) .nil)
theorem ds_raise2 (hg : Gok c G) (hcn : c.cm n = some C) (hc : X.calm = true) (tk : Takes X c.W) (T : OexC X.K C) (iC : PySem.W.findIn X.K (.ref C) "__init__" = some (some (.ref fI))) (tI : PySem.W.typeIn X.K (.ref fI) = some (.type "function")) (hno : PySem.W.findIn X.K (.ref C) fl = some none) (hno2 : PySem.W.findIn X.K (.ref C) gl = some none)
    (F1 : FnOk X.prog X.w X.K X.mg X.base (L2.CX X.prog X.w) 1 fI fd ps (spX2 X.K C fl gl)) (hr : Room 2 X.A) (hb : Binds X.K fd ps []) (hgx : Gl X x) (hm : X.mg x = some (.ref C)) (ha : PA X [e, e2] (tAs c G fs))
    (hdb : (x == ("__debug__" : Str)) = false := by decide) (he : starEach [e, e2] X.env = (false, eval e X.env) :: starEach [e2] X.env := by rfl) (hpl : (backTo p' (starEach [e2] X.env)).any (·.1) = false := by rfl) :
    PS X (.Raise (some (.Call (.Name x p) [e, e2] [] p')) none pos) (sD c L G G' (raiF n [gl, fl] true fs)) :=
  ps_imp (ps_raise hc tk (pmk_oex T iC tI F1 hr hb .nil passL hgx hm ha hdb he hpl)) fun E σ H ⟨S0, H0, S, r, ok, q⟩ => st_seq hg ok q fun ds vs S1 H1 w1 o1 m1 p1 => by
    obtain ⟨hl, p1⟩ := p1.ite
    match ds, vs, m1, hl with
    | [d1, d2], [v1, v2], .cons hv (.cons hu .nil), _ =>
      refine ⟨by show 2 ≤ 1000; decide, fun a na => ⟨a, v1, v2, rfl, T, hno, hno2, upd_same, fun d hd hne => ⟨rfl, d, [(gl, v2), (fl, v1)], by rw [upd_ne (Ne.symm hne), upd_same], upd_same, by rw [upd_ne hne] at hd; exact hd, ?_⟩⟩⟩
      rw [upd_ne hne] at hd
      have hh : ∀ (o1 o2 o3 o4 o : HO), upd (del (upd (upd (upd (upd H1 a o1) d o2) a o3) d o4) a) d o = upd H1 d o := fun o1 o2 o3 o4 o => by
        funext b
        by_cases hb : b = d
        · subst hb; rw [upd_same, upd_same]
        · rw [upd_ne hb, upd_ne hb]
          by_cases hba : b = a
          · subst hba; rw [del_same, na]
          · rw [del_ne hba, upd_ne hb, upd_ne hba, upd_ne hb, upd_ne hba]
      rw [hh]
      exact p1 C d σ (upd S1 d (.xd [(gl, v2), (fl, v1)])) _ [(gl, v2), (fl, v1)] hcn (o1.fwd.trans (Fwd.both o1.ex hd)) (fun g hgg => by rw [hg g hgg]; exact o1.go (Fwd.both o1.ex hd)) upd_same rfl (.cons (hu.mono (Ex.new (o1.ex.nn hd))) (.cons (hv.mono (Ex.new (o1.ex.nn hd))) .nil))
/-! ### try: .. except x as n: .. -/
def unsetS (i : Nat) : SR → SR
  | .nx r => .nx (r.set i none)
  | .bk r => .bk (r.set i none)
  | .ct r => .ct (r.set i none)
  | .er _ _ _ _ => .bad
  | o => o
def tryF (isM : Str → Option Bool) (i : Nat) (Fb Fs : Rho → SR) : Rho → SR := fun r => match Fb r with
  | .er r' n ns vs => match isM n with
    | some true => unsetS i (Fs (r'.set i (some (.obj n ns vs))))
    | some false => .er r' n ns vs
    | none => .bad
  | o => o
theorem EnvOk.unset {S0 H0 S H : Hp} {σ : St} {r : Rho} (e : EnvOk c S0 H0 G S H σ r) (i : Nat) : EnvOk c S0 H0 (G.set i .v) S H (σ.set i none) (r.set i none) := by
  refine ⟨e.fwd, by simp [e.len], fun j d h => ?_, fun j k d d' p hj hk kj kk sj sk => ?_, let ⟨A, hA⟩ := e.sto; ⟨A, hA.sub (fun a ha => (hA.out a ha).1) (fun _ _ => rfl) Ex.refl (fun j d p hj kj sj => ?_) fun j d kj hj => ?_⟩⟩
  · rcases set_some h with ⟨_, z, _⟩ | ⟨ne, h⟩
    · cases z
    · obtain ⟨v, h1, h2⟩ := e.slot j d h
      exact ⟨v, by rw [List.getElem?_set_ne ne]; exact h1, by rw [kd_set_ne ne]; exact h2⟩
  · rcases set_some hj with ⟨_, z, _⟩ | ⟨nj, hj⟩
    · cases z
    · rcases set_some hk with ⟨_, z, _⟩ | ⟨nk, hk⟩
      · cases z
      · rw [kd_set_ne nj] at kj
        rw [kd_set_ne nk] at kk
        rw [List.getElem?_set_ne nj] at sj
        rw [List.getElem?_set_ne nk] at sk
        exact e.sep j k d d' p hj hk kj kk sj sk
  · rcases set_some hj with ⟨_, z, _⟩ | ⟨nj, hj⟩
    · cases z
    · rw [kd_set_ne nj] at kj
      rw [List.getElem?_set_ne nj] at sj
      exact hA.own j d p hj kj sj
  · rcases set_some hj with ⟨_, z, _⟩ | ⟨nj, hj⟩
    · cases z
    · rw [kd_set_ne nj, List.getElem?_set_ne nj]
      exact ⟨rfl, hj, rfl⟩
/-- the slot of a caught exception -/
theorem EnvOk.setX {c' : Cf} {S0 H0 S H : Hp} {σ : St} {r : Rho} {a C dd : Addr} {n : Str} {ns : List Str} {vs : List D} {fs : List (Str × V)} (e : EnvOk c S0 H0 G S H σ r) (hK : c'.K = c.K) (hcm : c'.cm = c.cm) (i : Nat) (hi : i < G.length) (h1 : c.cm n = some C) (h2 : S dd = some (.xd fs)) (h3 : ns = fs.map (·.1)) (h4 : RpA c.K c.cm S (fs.map (·.2)) vs) :
    EnvOk c' S0 H0 (G.set i (.x a C dd)) S H (σ.set i (some (.ref a))) (r.set i (some (.obj n ns vs))) := by
  have sl : ∀ k v d, SlotOk c H0 S H k v d → SlotOk c' H0 S H k v d := fun k v d h => by
    cases k with
    | v => unfold SlotOk at h ⊢; rw [hK, hcm]; exact h
    | o => unfold SlotOk at h ⊢; rw [hK, hcm]; exact h
    | b => unfold SlotOk at h ⊢; rw [hK, hcm]; exact h
    | s => exact h
    | w => exact h
    | x a C dd => unfold SlotOk at h ⊢; rw [hK, hcm]; exact h
  have sto' : ∃ A, StoOk c'.K c'.cm H0 (G.set i (.x a C dd)) S H (σ.set i (some (.ref a))) (r.set i (some (.obj n ns vs))) A := by
    obtain ⟨A, hA⟩ := e.sto
    rw [hK, hcm]
    refine ⟨A, hA.sub (fun a ha => (hA.out a ha).1) (fun _ _ => rfl) Ex.refl (fun j d p hj kj sj => ?_) fun j d kj hj => ?_⟩
    · have nj : i ≠ j := fun z => by subst z; rw [kd_set_o hi] at kj; cases kj
      rw [List.getElem?_set_ne nj] at hj sj
      rw [kd_set_ne nj] at kj
      exact hA.own j d p hj kj sj
    · have nj : i ≠ j := fun z => by subst z; rw [kd_set_o hi] at kj; rcases kj with kj | kj <;> cases kj
      rw [List.getElem?_set_ne nj] at hj
      rw [kd_set_ne nj, List.getElem?_set_ne nj]
      exact ⟨rfl, hj, rfl⟩
  refine ⟨e.fwd, by simp [e.len], fun j d h => ?_, fun j k d d' p hj hk kj kk sj sk => ?_, sto'⟩
  · rcases set_some h with ⟨rfl, z, hl⟩ | ⟨ne, h⟩
    · cases z
      refine ⟨.ref a, by rw [List.getElem?_set_self (by rw [e.len]; exact hl)], ?_⟩
      rw [kd_set_o hi]
      exact ⟨rfl, n, ns, vs, fs, rfl, by rw [hcm]; exact h1, h2, h3, by rw [hK, hcm]; exact h4⟩
    · obtain ⟨v, q1, q2⟩ := e.slot j d h
      exact ⟨v, by rw [List.getElem?_set_ne ne]; exact q1, by rw [kd_set_ne ne]; exact sl _ _ _ q2⟩
  · have nj : i ≠ j := fun z => by subst z; rw [kd_set_o hi] at kj; cases kj
    have nk : i ≠ k := fun z => by subst z; rw [kd_set_o hi] at kk; cases kk
    rw [List.getElem?_set_ne nj] at hj sj
    rw [List.getElem?_set_ne nk] at hk sk
    rw [kd_set_ne nj] at kj
    rw [kd_set_ne nk] at kk
    exact e.sep j k d d' p hj hk kj kk sj sk
/-- the kinds told ahead; what they are is the same whatever the wishes -/
theorem EnvOk.cf {c' : Cf} {S0 H0 S H : Hp} {σ : St} {r : Rho} (e : EnvOk c S0 H0 G S H σ r) (hK : c'.K = c.K) (hcm : c'.cm = c.cm) : EnvOk c' S0 H0 G S H σ r := by
  refine ⟨e.fwd, e.len, fun j d h => ?_, e.sep, by rw [hK, hcm]; exact e.sto⟩
  obtain ⟨v, q1, q2⟩ := e.slot j d h
  refine ⟨v, q1, ?_⟩
  cases kj : kd G j with
  | v => rw [kj] at q2; unfold SlotOk at q2 ⊢; rw [hK, hcm]; exact q2
  | o => rw [kj] at q2; unfold SlotOk at q2 ⊢; rw [hK, hcm]; exact q2
  | b => rw [kj] at q2; unfold SlotOk at q2 ⊢; rw [hK, hcm]; exact q2
  | s => rw [kj] at q2; exact q2
  | w => rw [kj] at q2; exact q2
  | x a C dd => rw [kj] at q2; unfold SlotOk at q2 ⊢; rw [hK, hcm]; exact q2
abbrev Cf.try (c : Cf) (W : WX) (G : List Ow) : Cf := ⟨c.K, c.cm, W, some G, c.rm⟩
theorem ds_try {nm xn : Str} {cv : Value} {i : Nat} {body suite : List Stmt} {b0 : Stmt} {np p1 : Pos} {isM : Str → Option Bool} {Fb Fs : Rho → SR} {Gs : List Ow} (hge : Gok c G) (hs : X.stack = X.env :: X.outer) (hf : X.env.frame = some X.env.locals) (hN : X.N.Nodup) (hi : X.N[i]? = some nm) (hln : X.env.kindOf nm = some .local) (hc : Names X xn cv) (tk : Takes X c.W)
    (hG : i < G.length) (hM : ∀ n C b, c.cm n = some C → isM n = some b → PySem.W.exmOne X.K (.ref C) cv = some b)
    (hb : ∀ (W : WX) (pn : List (Addr × Obj)) (xe : Value → Shared → Prop), Takes (X.tr pn xe) W → PassesOwn (model X.prog X.w) X.A X.env xe → PSs (X.tr pn xe) body (sD (c.try W G) L G G' Fb))
    (hsu : ∀ (a C dd : Addr) (oe : Obj) (pn : List (Addr × Obj)), (∃ n, c.cm n = some C ∧ isM n = some true) → Zc (.ref C) (some dd) oe → (∃ vs, oe.data = .fields vs) → PSs (X.suite a ((a, oe) :: pn)) (b0 :: suite) (sD c.calm (L.set i (.x a C dd)) (G.set i (.x a C dd)) (Gs.set i (.x a C dd)) Fs))
    (hGs : Gs.set i .v = G') (hL : L.set i .v = L) :
    PS X (.Try body [.ExceptHandler (some (.Name xn np)) (some nm) (b0 :: suite) p1] [] [] pos) (sD c L G G' (tryF isM i Fb Fs)) := by
  refine ps_imp (ps_try_as (tb := fun W => sD (c.try W G) L G G' Fb) (ts := fun a cls d => fun E σ H => ∃ C dd, cls = .ref C ∧ d = some dd ∧ (∃ n, c.cm n = some C ∧ isM n = some true) ∧ sD c.calm (L.set i (.x a C dd)) (G.set i (.x a C dd)) (Gs.set i (.x a C dd)) Fs E σ H) hs hf hN hi hln hc tk hb ?_) ?_
  · intro a oe cls d pn hz hff
    refine ⟨fun pins s σ H E I ⟨C, dd, hC, hd, hin, q⟩ => ?_⟩
    subst hC hd
    exact (hsu a C dd oe pn hin hz hff).run pins s σ H E I q
  · rintro E σ H ⟨S0, H0, S, r, ok, p⟩
    refine ⟨S0, H0, S, r, ok.cf rfl rfl, ?_⟩
    unfold tryF at p
    cases hF : Fb r with
    | nx r' => rw [hF] at p; exact fun σ' S' H' e => p σ' S' H' (e.cf rfl rfl)
    | rt d => rw [hF] at p; exact p
    | bk r' => rw [hF] at p; exact fun σ' S' H' e => p σ' S' H' (e.cf rfl rfl)
    | ct r' => rw [hF] at p; exact fun σ' S' H' e => p σ' S' H' (e.cf rfl rfl)
    | bad => rw [hF] at p; exact p.elim
    | er r' n ns vs =>
      rw [hF] at p
      intro C dd σ' S' H' fs h1 fw h2 h3 h4 h5
      have e1 : EnvOk (c.try _ G) S0 H0 G S' H' σ' r' := h2 G rfl
      dsimp only at p
      cases hI : isM n with
      | none => rw [hI] at p; exact p.elim
      | some b =>
        rw [hI] at p
        refine ⟨b, hM n C b h1 hI, fun hb1 a ha => ?_, fun hb0 => ?_⟩
        · subst hb1
          refine ⟨C, dd, rfl, rfl, ⟨n, h1, hI⟩, S0, H0, S', _, e1.setX (c' := c.calm) (a := a) rfl rfl i hG h1 h3 h4 h5, ?_⟩
          have p : PostS c S0 H0 L G' (unsetS i (Fs (r'.set i (some (.obj n ns vs))))) E := p
          cases hS : Fs (r'.set i (some (.obj n ns vs))) with
          | nx r2 =>
            rw [hS] at p
            intro σ2 S2 H2 e2
            have := (EnvOk.cf (c' := c) e2 rfl rfl).unset i
            rw [List.set_set, hGs] at this
            exact p _ S2 H2 this
          | rt d => rw [hS] at p; exact p
          | bk r2 =>
            rw [hS] at p
            intro σ2 S2 H2 e2
            have := (EnvOk.cf (c' := c) e2 rfl rfl).unset i
            rw [List.set_set, hL] at this
            exact p _ S2 H2 this
          | ct r2 =>
            rw [hS] at p
            intro σ2 S2 H2 e2
            have := (EnvOk.cf (c' := c) e2 rfl rfl).unset i
            rw [List.set_set, hL] at this
            exact p _ S2 H2 this
          | er _ _ _ _ => rw [hS] at p; exact p.elim
          | bad => rw [hS] at p; exact p.elim
        · subst hb0
          exact p C dd σ' S' H' fs h1 fw (fun g hg => by rw [hge g hg]; exact EnvOk.cf (c' := c) e1 rfl rfl) h3 h4 h5
/-! ### in the suite: n.f, isinstance(n, T) -/
def lookF (ns : List Str) (vs : List D) (f : Str) : Option D := (ns.zip vs).lookup f
def dXf (i : Nat) (f : Str) : Rho → Res D := fun r => match r[i]? with
  | some (some (.obj _ ns vs)) => match lookF ns vs f with
    | some d => .ok d
    | none => .bad
  | _ => .bad
theorem look_rp {K : PySem.W.Frag} {cm : CM} {S : Hp} {f : Str} {d : D} : ∀ {fs : List (Str × V)} {vs : List D}, RpA K cm S (fs.map (·.2)) vs → lookF (fs.map (·.1)) vs f = some d → ∃ v, fs.lookup f = some v ∧ Rp K cm S v d
  | [], vs, h, q => by cases h; cases q
  | (g, u) :: fs, _, h, q => by
    cases h with | @cons _ _ d' ds hu hr =>
    unfold lookF at q
    rw [List.map_cons, List.zip_cons_cons, List.lookup_cons] at q
    rw [List.lookup_cons]
    by_cases hfg : (f == g) = true
    · rw [hfg] at q ⊢; cases q; exact ⟨u, rfl, hu⟩
    · have : (f == g) = false := by simpa using hfg
      rw [this] at q ⊢
      exact look_rp hr q
theorem de_xf {a C dd : Addr} {oe : Obj} {pn : List (Addr × Obj)} {i : Nat} {nm f : Str} {pn' : Pos} (T : XfC X.K C) (hno : PySem.W.findIn X.K (.ref C) f = some none) (k : kd G i = .x a C dd)
    (hz : Zc (.ref C) (some dd) oe) (hf : ∃ vs, oe.data = .fields vs) (he : PE (X.suite a ((a, oe) :: pn)) (.Name nm pn') (tVar i)) (hb : attributeBase (.Name nm pn') f X.env (eval (.Name nm pn') X.env) = eval (.Name nm pn') X.env := by rfl) :
    PE (X.suite a ((a, oe) :: pn)) (.Attribute (.Name nm pn') f pos) (tV c G (dXf i f)) := pe_imp (pe_xf T hno hz hf he hb) fun σ H Q ⟨S0, H0, S, r, ok, p⟩ => by
  unfold dXf at p
  split at p
  · rename_i n ns vs hr
    obtain ⟨v, h1, h2⟩ := ok.slot i _ hr
    rw [k] at h2
    obtain ⟨rfl, n', ns', ds', fs, z1, z2, z3, z4, z5⟩ := h2
    cases z1
    split at p
    · rename_i d hd
      rw [z4] at hd
      obtain ⟨u, q1, q2⟩ := look_rp z5 hd
      exact ⟨.ref a, h1, rfl, rfl, dd, fs, u, rfl, ok.ex _ _ z3, q1, p.here ok.ex q2⟩
    · exact p.elim
  · exact p.elim
/-- isinstance(e, c), e the exception that the suite holds -/
def rIsX (K : PySem.W.Frag) (C a dd : Addr) : List V → Hp → VK → Prop := fun xs H Q => ∃ (c : V) (cv : Value) (b : Bool) (fs : List (Str × V)), xs = [.ref a, c] ∧ (∀ u, RelV c u → u = cv) ∧ H dd = some (.xd fs) ∧ PySem.W.kitOne K (.ref C) cv = some b ∧ Q (.bl b) H
theorem call_isX {a C dd : Addr} {oe : Obj} {pn : List (Addr × Obj)} (T : ExcC X.K C) (hz : Zc (.ref C) (some dd) oe) (hf : ∃ vs, oe.data = .fields vs) : CallR (X.suite a ((a, oe) :: pn)) (.builtin "isinstance") (rIsX X.K C a dd) := by
  intro pins s σ H xs us Q I r h
  obtain ⟨cc, cv, b, fs, rfl, hcv, hdd, hk, q⟩ := h
  match us, r with
  | [u1, u2], .cons rx (.cons rt .nil) =>
    cases rx
    have ec := hcv _ rt
    subst ec
    have hpin := (I.pin (a, oe) (List.mem_append_left _ List.mem_cons_self)).1
    obtain ⟨vs, hv⟩ := hf
    have hx : ObjOk X.prog X.w H s.heap dd (.xd fs) := I.hok dd _ hdd
    obtain ⟨mA, hns, _⟩ := hx
    obtain ⟨od, ho, _⟩ := lookIn_ns hns
    have J : PySem.W.InstAt s.heap a oe C (some od) := ⟨hpin, hz.1, by unfold PySem.W.notCls; rw [hv], by rw [hz.2]; exact ho⟩
    have hcl : (PySem.W.clsIn X.K C).isSome = true := by
      have h1 := T.hd
      unfold PySem.W.hasDictIn at h1
      cases hc : PySem.W.clsIn X.K C with
      | none => rw [hc] at h1; cases h1
      | some _ => rfl
    exact PySem.W.kia_one (PySem.W.kitx_exc hcl T.hg T.hk T.hs T.ha T.hn T.ht T.hm) I.kIn J hk (fun z => nomatch z) fun tk => ⟨.bl b, H, I.kept (t' := tk) fun _ _ z => z, rfl, q⟩
/-- isM: which of the classes that are caught are of this class -/
def dIsX (isM : Str → Option Bool) (i : Nat) : Rho → Res D := fun r => match r[i]? with
  | some (some (.obj n _ _)) => match isM n with
    | some b => .ok (.bl b)
    | none => .bad
  | _ => .bad
theorem de_isX {a C dd : Addr} {oe : Obj} {pn : List (Addr × Obj)} {i : Nat} {nm xc : Str} {pn' pc : Pos} {isM : Str → Option Bool} {v : V} {cv : Value} (k : kd G i = .x a C dd) (T : ExcC X.K C) (hz : Zc (.ref C) (some dd) oe) (hf : ∃ vs, oe.data = .fields vs)
    (hcv : ∀ u, RelV v u → u = cv) (hM : ∀ n b, c.cm n = some C → isM n = some b → PySem.W.kitOne X.K (.ref C) cv = some b)
    (hm : X.mg "isinstance" = none) (hg : Gl X "isinstance") (hv : PE (X.suite a ((a, oe) :: pn)) (.Name nm pn') (tVar i)) (hT : PE (X.suite a ((a, oe) :: pn)) (.Name xc pc) (tC v))
    (hs1 : starEach [.Name nm pn', .Name xc pc] X.env = (false, eval (.Name nm pn') X.env) :: starEach [.Name xc pc] X.env := by rfl) (hs2 : starEach [.Name xc pc] X.env = (false, eval (.Name xc pc) X.env) :: starEach [] X.env := by rfl) (hpl : (backTo pos (starEach [.Name xc pc] X.env)).any (·.1) = false := by rfl) :
    PE (X.suite a ((a, oe) :: pn)) (.Call (.Name "isinstance" p) [.Name nm pn', .Name xc pc] [] pos) (tV c G (dIsX isM i)) := by
  refine pe_imp (pe_callB (call_isX T hz hf) hg hm (by decide +kernel) (pa_cons hv (pa_cons hT pa_nil hs2) hs1) (he := hs1) (hpl := hpl)) fun σ H Q ⟨S0, H0, S, r, ok, p⟩ => ?_
  unfold dIsX at p
  split at p
  · rename_i n ns vs hr
    obtain ⟨v', h1, h2⟩ := ok.slot i _ hr
    rw [k] at h2
    obtain ⟨rfl, n', ns', ds', fs, z1, z2, z3, z4, z5⟩ := h2
    cases z1
    split at p
    · rename_i b hb
      exact ⟨.ref a, h1, v, cv, b, fs, rfl, hcv, ok.ex _ _ z3, hM n b z2 hb, p.here ok.ex (.bl _)⟩
    · exact p.elim
  · exact p.elim
end
end Dx

end S_DxG
section S_DxT
set_option Elab.async false
set_option linter.all false
set_option maxRecDepth 100000
set_option maxHeartbeats 2000000
/-! Dx, part T: texts, truth, small things. -/
namespace Dx
open PySem L2
theorem gok0 {K : PySem.W.Frag} {cm : CM} {rm : Bool} {E : XK} {G : List Ow} : Gok (cfE K cm rm E) G := fun _ h => nomatch h
theorem gokC {c : Cf} {G : List Ow} : Gok c.calm G := fun _ h => nomatch h
theorem gokT {c : Cf} {W : WX} {G : List Ow} : Gok (c.try W G) G := fun _ h => (Option.some.inj h).symm
theorem hu65 {k : Nat} {A : Around} (hr : Room k A) : A.units + 65 < cLine := by have := hr.un; omega
theorem fnok_bad {P : Program} {w : World} {K : PySem.W.Frag} {mg : Str → Option Value} {base : Heap} {CX : CXT} {k : Nat} {f : Addr} {fd : FuncData} {ps : List Str} {cm : CM} {ms : List Bool} {rm : Bool} : FnOk P w K mg base CX k f fd ps (spD K cm ms rm fun _ => .bad) :=
  ⟨fun _ _ _ _ ⟨_, _, _, _, h⟩ => h.elim, fun _ _ _ _ _ _ _ _ _ _ _ _ _ ⟨_, _, _, _, h⟩ => h.elim⟩
theorem ints_rp {K : PySem.W.Frag} {cm : CM} {S : Hp} : ∀ ns : List Int, RpA K cm S (ns.map V.int) (ns.map D.int)
  | [] => .nil
  | n :: ns => .cons (.int n) (ints_rp ns)
theorem law_sp {K : PySem.W.Frag} {cm : CM} {F : List D → Res D} {ns : List Int} {H : Hp} {a : Addr} {Q : VK} {E : XK} (h : F [.fz (ns.map D.int)] = .ok (.bl true)) (hS : SqL K H a (ns.map V.int)) (k : ∀ H', Q (.bl true) H') : spD K cm [false] false F [.ref a] H Q E :=
  ⟨H, [.fz (ns.map D.int)], Ex.refl, ⟨.fz hS (ints_rp ns), trivial⟩, by
    rw [h]
    intro S' H' w b hb
    cases hb
    exact k H'⟩
theorem cx_never {P : Program} {w : World} {outer : List Env} {H : Hp} {s s' : Shared} {e : Value} (h : L2.CX P w outer H s (fun _ _ _ => False) e s') : False := by
  obtain ⟨_, _, _, _, _, _, _, _, _, _, _, _, hf⟩ := h
  exact hf
section
variable {X : Cx} {c : Cf} {L G G' : List Ow} {f f1 f2 : Rho → Res D} {o e : Expr} {pos apos : Pos}
/-! ### a text's methods -/
def asS : D → Res Str
  | .str s => .ok s
  | _ => .bad
def MtS (c : Cf) (R : Md V D) (r : V → List V → Hp → VK → Prop) (g : D → D → Res D) : Prop := ∀ (σ : St) (S H : Hp) (x y : V) (d e : D) (Q : VK), Ex S H → RpB c.K c.cm S H x d → RpB c.K c.cm S H y e →
  PostG c σ S H (g d e) (fun a S' H' => ∀ b, R H S' H' b a → Q b H') → r x [y] H Q
def dStr (g : D → D → Res D) (f1 f2 : Rho → Res D) : Rho → Res D := fun r => (f1 r).bind fun x => (asS x).bind fun _ => (f2 r).bind fun y => g x y
theorem de_m1 {R : Md V D} [Anti R] {id : String} {name : Str} {r : V → List V → Hp → VK → Prop} {g : D → D → Res D} (slot : Slot "str" name id) (ty : typeOf (.builtin id) = pure (.type "method_descriptor")) (rule : MtR X id r) (hs : MtS c R r g) (ho : PE X o (tR c G f1)) (he : PE X e (tR c G f2))
    (hst : starEach [e] X.env = [(false, eval e X.env)] := by rfl) (hbase : attributeBase o name X.env (eval o X.env) = eval o X.env := by rfl) (hline : (apos.endLine == pos.line) = true := by rfl) :
    PE X (.Call (.Attribute o name apos) [e] [] pos) (rd c G (dStr g f1 f2) R) := pe_imp (pe_m1 slot ty rule ho he hst hbase hline) fun σ H Q ⟨S0, H0, S, r, ok, p⟩ => rd_seq ok p fun x v S1 H1 w1 o1 m1 p1 => by
  cases x with
  | str z =>
    have hv := RpB.str m1
    exact ⟨⟨z, hv⟩, rd_seq o1 (show PostG c σ S1 H1 ((f2 r).bind fun y => g (.str z) y) _ from p1) fun y u S2 H2 w2 o2 m2 p2 => hs σ S2 H2 v u (.str z) y Q o2.ex (RpB.mono m1 w2.s w2.h) m2 (p2.anti (w1.h.trans w2.h))⟩
  | _ => exact p1.elim
def strsD (zs : List Str) : List D := zs.map .str
theorem strs_rp {K : PySem.W.Frag} {cm : CM} {S : Hp} : ∀ zs : List Str, RpA K cm S (zs.map V.str) (strsD zs)
  | [] => .nil
  | z :: zs => .cons (.str z) (strs_rp zs)
noncomputable def splitD : D → D → Res D
  | .str a, .str b => guard ((b.length == 0) = false ∧ a.length + 2 ≤ sizeLine) (.ok (.lst (strsD (Txt.split a b))))
  | _, _ => .bad
theorem ms_split : MtS c (mO c) (fun x xs H Q => ∃ a b, x = .str a ∧ xs = [.str b] ∧ (b.length == 0) = false ∧ a.length + 2 ≤ sizeLine ∧ rNewStrs (Txt.split a b) H Q) splitD := by
  intro σ S H x y d e Q ex hx hy p
  unfold splitD at p
  split at p
  · obtain ⟨hl, p⟩ := p.gd
    cases hx.str; cases hy.str
    exact ⟨_, _, rfl, rfl, hl.1, hl.2, fun q hq => p.kept ex hq (.lst (strs_rp _))⟩
  · exact p.elim
noncomputable def partD : D → D → Res D
  | .str a, .str b => guard ((b.length == 0) = false ∧ a.length ≤ sizeLine) (.ok (.tup [.str (Txt.partition a b).1, .str (Txt.partition a b).2.1, .str (Txt.partition a b).2.2]))
  | _, _ => .bad
theorem ms_part : MtS c (mV c) (fun x xs H Q => ∃ a b, x = .str a ∧ xs = [.str b] ∧ (b.length == 0) = false ∧ a.length ≤ sizeLine ∧
    ∀ p, H p = none → Q (.ref p) (upd H p (.tup [.str (Txt.partition a b).1, .str (Txt.partition a b).2.1, .str (Txt.partition a b).2.2]))) partD := by
  intro σ S H x y d e Q ex hx hy p
  unfold partD at p
  split at p
  · obtain ⟨hl, p⟩ := p.gd
    cases hx.str; cases hy.str
    exact ⟨_, _, rfl, rfl, hl.1, hl.2, fun q hq => p.laid ex hq (.tup (.inl (.inl upd_same)) (.cons (.str _) (.cons (.str _) (.cons (.str _) .nil))))⟩
  · exact p.elim
def startD : D → D → Res D
  | .str a, .str b => .ok (.bl (Txt.startswith a b))
  | _, _ => .bad
theorem ms_start : MtS c (mV c) (fun x xs H Q => ∃ a b, x = .str a ∧ xs = [.str b] ∧ Q (.bl (Txt.startswith a b)) H) startD := by
  intro σ S H x y d e Q ex hx hy p
  unfold startD at p
  split at p
  · cases hx.str; cases hy.str; exact ⟨_, _, rfl, rfl, p.here ex (.bl _)⟩
  · exact p.elim
def endD : D → D → Res D
  | .str a, .str b => .ok (.bl (Txt.endswith a b))
  | _, _ => .bad
theorem ms_end : MtS c (mV c) (fun x xs H Q => ∃ a b, x = .str a ∧ xs = [.str b] ∧ Q (.bl (Txt.endswith a b)) H) endD := by
  intro σ S H x y d e Q ex hx hy p
  unfold endD at p
  split at p
  · cases hx.str; cases hy.str; exact ⟨_, _, rfl, rfl, p.here ex (.bl _)⟩
  · exact p.elim
def findD : D → D → Res D
  | .str a, .str b => .ok (.int (Txt.find a b))
  | _, _ => .bad
theorem ms_find : MtS c (mV c) (fun x xs H Q => ∃ a b, x = .str a ∧ xs = [.str b] ∧ Q (.int (Txt.find a b)) H) findD := by
  intro σ S H x y d e Q ex hx hy p
  unfold findD at p
  split at p
  · cases hx.str; cases hy.str; exact ⟨_, _, rfl, rfl, p.here ex (.int _)⟩
  · exact p.elim
/-- the texts of a list or a tuple -/
def allStr : List D → Option (List Str)
  | [] => some []
  | .str z :: ds => (allStr ds).map (z :: ·)
  | _ :: _ => none
theorem allStr_rp {K : PySem.W.Frag} {cm : CM} {S : Hp} : ∀ {ds : List D} {vs : List V} {zs : List Str}, RpA K cm S vs ds → allStr ds = some zs → vs = zs.map V.str
  | [], _, _, h, q => by cases h; cases q; rfl
  | d :: ds, _, _, h, q => by
    cases h with | cons hd hr =>
    cases d with
    | str z =>
      rw [allStr] at q
      obtain ⟨zs, h1, rfl⟩ := Option.map_eq_some_iff.mp q
      cases hd
      rw [allStr_rp hr h1]; rfl
    | _ => cases q
noncomputable def joinZ (a : Str) : Option (List Str) → Res D
  | some zs => guard ((zs.map (·.length)).sum + zs.length * a.length ≤ 16777216) (.ok (.str (Txt.join a zs)))
  | none => .bad
noncomputable def joinD : D → D → Res D
  | .str a, d => (items d).bind fun ds => joinZ a (allStr ds)
  | _, _ => .bad
theorem ms_join (hK : c.K = X.K := by rfl) : MtS c (mV c) (fun x xs H Q => ∃ a p, ∃ ys : List Str, x = .str a ∧ xs = [.ref p] ∧ (SqL X.K H p (ys.map V.str) ∨ SqT X.K H p (ys.map V.str)) ∧
    (ys.map (·.length)).sum + ys.length * a.length ≤ 16777216 ∧ Q (.str (Txt.join a ys)) H) joinD := by
  intro σ S H x y d e Q ex hx hy p
  cases d with
  | str a =>
    cases hx.str
    have fin : ∀ ds, items e = .ok ds → ∃ zs, allStr ds = some zs ∧ (zs.map (·.length)).sum + zs.length * a.length ≤ 16777216 ∧ Q (.str (Txt.join a zs)) H := fun ds hds => by
      replace p : PostG c σ S H ((items e).bind fun ds => joinZ a (allStr ds)) (fun a S' H' => ∀ b, mV c H S' H' b a → Q b H') := p
      rw [hds] at p
      replace p : PostG c σ S H (joinZ a (allStr ds)) (fun a S' H' => ∀ b, mV c H S' H' b a → Q b H') := p
      cases hz : allStr ds with
      | none => rw [hz] at p; exact p.elim
      | some zs =>
        rw [hz] at p
        obtain ⟨hl, p⟩ := p.gd
        exact ⟨zs, rfl, hl, p.here ex (.str _)⟩
    rw [← hK]
    cases e with
    | lst ds =>
      obtain ⟨q, xs, rfl, a1, r1⟩ := hy.list ex
      obtain ⟨zs, h1, h2, h3⟩ := fin ds rfl
      have := allStr_rp r1 h1; subst this
      exact ⟨a, q, zs, rfl, rfl, .inl (.inl (.inl a1)), h2, h3⟩
    | fz ds =>
      obtain ⟨q, xs, rfl, a1, r1⟩ := hy.fz ex
      obtain ⟨zs, h1, h2, h3⟩ := fin ds rfl
      have := allStr_rp r1 h1; subst this
      exact ⟨a, q, zs, rfl, rfl, .inl a1, h2, h3⟩
    | tup ds =>
      obtain ⟨q, xs, rfl, a1, r1, s1⟩ := hy.tup ex
      obtain ⟨zs, h1, h2, h3⟩ := fin ds rfl
      have := allStr_rp r1 h1; subst this
      exact ⟨a, q, zs, rfl, rfl, .inr a1, h2, h3⟩
    | _ => exact p.elim
  | _ => exact p.elim
noncomputable def ordX : D → Res D
  | .str x => guard (x.length = 1) (.ok (.int (x.cps.getD 0 0 : Nat)))
  | _ => .bad
theorem cs_ord : CallS c (mV c) (fun xs H Q => ∃ x, xs = [.str x] ∧ x.length = 1 ∧ Q (.int (x.cps.getD 0 0 : Nat)) H) [true] (g1 ordX) := by
  intro σ S H vs ds Q ex m p
  obtain ⟨v, d, rfl, rfl, h⟩ := m.one
  cases d with
  | str z =>
    obtain ⟨hl, p⟩ := p.gd
    cases h.str; exact ⟨_, rfl, hl, p.here ex (.int _)⟩
  | _ => exact p.elim
/-! ### f'..' -/
noncomputable def fmtD : D → Res D
  | .str y => guard (y.length ≤ sizeLine) (.ok (.str y))
  | .int i => guard (i.natAbs.log2 < 1920) (.ok (.str (toString i)))
  | _ => .bad
theorem de_fmt (he : PE X e (tV c G f)) : PE X (.FormattedValue e (-1) none pos) (tV c G (dUn fmtD f)) := pe_imp (pe_fmt he) fun σ H Q ⟨S0, H0, S, r, ok, p⟩ => rd_seq ok p fun d v S1 H1 w1 o1 m1 p1 => by
  cases d with
  | str y =>
    obtain ⟨hl, p1⟩ := p1.gd
    cases m1; exact .inl ⟨y, rfl, hl, p1.go o1.ex _ (.str _)⟩
  | int i =>
    obtain ⟨hl, p1⟩ := p1.gd
    cases m1; exact .inr ⟨i, rfl, hl, p1.go o1.ex _ (.str _)⟩
  | _ => exact p1.elim
def dJnil : Str → Rho → Res D := fun acc _ => .ok (.str acc)
noncomputable def dJcons (f : Rho → Res D) (g : Str → Rho → Res D) : Str → Rho → Res D := fun acc r => (f r).bind fun d => (asS d).bind fun y => guard ((acc ++ y).length ≤ sizeLine) (g (acc ++ y) r)
def dJoin (g : Str → Rho → Res D) : Rho → Res D := g Str.empty
/-- the parts by data -/
def PJd (X : Cx) (c : Cf) (G : List Ow) (es : List Expr) (g : Str → Rho → Res D) : Prop := ∃ ts, PJ X es ts ∧ ∀ acc σ H Q, rd c G (g acc) (mV c) σ H Q → tJs ts acc σ H fun out H1 => Q (.str out) H1
theorem dj_nil : PJd X c G [] dJnil := ⟨[], .nil, fun acc σ H Q ⟨S0, H0, S, r, ok, p⟩ => p.here ok.ex (.str _)⟩
theorem dj_cons {es : List Expr} {g : Str → Rho → Res D} (he : PE X e (tV c G f)) (hr : PJd X c G es g) : PJd X c G (e :: es) (dJcons f g) := by
  obtain ⟨ts, h1, h2⟩ := hr
  refine ⟨_, .cons he h1, fun acc σ H Q ⟨S0, H0, S, r, ok, p⟩ => rd_seq ok p fun d v S1 H1 w1 o1 m1 p1 => ?_⟩
  cases d with
  | str y =>
    cases m1
    have p1 : PostG c σ S1 H1 (guard ((acc ++ y).length ≤ sizeLine) (g (acc ++ y) r)) _ := p1
    obtain ⟨hl, p1⟩ := p1.gd
    exact ⟨y, rfl, hl, h2 _ σ H1 Q ⟨S0, H0, S1, r, o1, p1⟩⟩
  | _ => exact p1.elim
theorem de_join {v1 v2 : Expr} {rest : List Expr} {g : Str → Rho → Res D} (h : PJd X c G (v1 :: v2 :: rest) g) : PE X (.JoinedStr (v1 :: v2 :: rest) pos) (tV c G (dJoin g)) := by
  obtain ⟨ts, h1, h2⟩ := h
  exact pe_imp (pe_joined h1) fun σ H Q q => h2 _ σ H Q q
/-! ### truth -/
noncomputable def truB : D → Res Bool
  | .non => .ok false
  | .bl b => .ok b
  | .int i => .ok (i != 0)
  | .str y => guard (y.length ≤ sizeLine) (.ok ((y.length : Int) != 0))
  | .lst ds => .ok (!ds.isEmpty)
  | .fz ds => .ok (!ds.isEmpty)
  | .tup ds => .ok (!ds.isEmpty)
  | _ => .bad
noncomputable def dTru (f : Rho → Res D) : Rho → Res Bool := fun r => (f r).bind truB
theorem RpA.empty {K : PySem.W.Frag} {cm : CM} {S : Hp} {vs : List V} {ds : List D} (h : RpA K cm S vs ds) : (!ds.isEmpty) = !vs.isEmpty := by cases h <;> rfl
theorem dt_tru (he : PE X e (tR c G f)) (hw : ∀ whole, isTrue e X.env whole = (do let v ← whole; standAt e.pos; holding [v] (truthy v))) (hK : c.K = X.K := by rfl) : PT X e (tT c G (dTru f)) :=
  pt_imp (pt_truth he hw) fun σ H Q ⟨S0, H0, S, r, ok, p⟩ => rd_seq ok p fun d v S1 H1 w1 o1 m1 p1 => by
    rw [← hK]
    cases d with
    | non => cases RpB.non m1; exact ⟨_, rfl, p1.go o1.ex _ rfl⟩
    | bl b => cases RpB.bl m1; exact ⟨_, rfl, p1.go o1.ex _ rfl⟩
    | int i => cases RpB.int m1; exact ⟨_, rfl, p1.go o1.ex _ rfl⟩
    | str y =>
      cases RpB.str m1
      obtain ⟨hl, p1⟩ := p1.gd
      exact ⟨_, ⟨hl, rfl⟩, p1.go o1.ex _ rfl⟩
    | lst ds => obtain ⟨q, xs, rfl, a1, r1⟩ := RpB.list m1 o1.ex; exact ⟨_, .inl ⟨xs, .inl (.inl a1), r1.empty⟩, p1.go o1.ex _ rfl⟩
    | fz ds => obtain ⟨q, xs, rfl, a1, r1⟩ := RpB.fz m1 o1.ex; exact ⟨_, .inl ⟨xs, a1, r1.empty⟩, p1.go o1.ex _ rfl⟩
    | tup ds => obtain ⟨q, xs, rfl, a1, r1, s1⟩ := RpB.tup m1 o1.ex; exact ⟨_, .inr (.inl ⟨xs, a1, r1.empty⟩), p1.go o1.ex _ rfl⟩
    | _ => exact p1.elim
/-! ### x op= e -/
def augF (i : Nat) (g : D → D → Res D) (f : Rho → Res D) : Rho → SR := fun r => liftS r (dVar i r) fun x => liftS r (f r) fun y => liftS r (g x y) fun z => .nx (r.set i (some z))
theorem ds_aug (i : Nat) {x : Str} {op : Operator} {g : Int → Int → Int} {pos' : Pos} (hg : Gok c G) (k : kd G i = .v) (hN : X.N.Nodup) (hi : X.N[i]? = some x) (hx : Loc X.env.scope x) (he : PE X e (tV c G f)) (ho : PIp X op (ipI g)) (hf : X.fn x = true ∨ X.env.scope.names.lookup x = some .local := by first | exact .inl rfl | exact .inr rfl | assumption) :
    PS X (.AugAssign (.Name x pos') op e pos) (sD c L G (G.set i .v) (augF i (intsD g) f)) := ps_imp (ps_aug hN hi hx he ho hf) fun E σ H ⟨S0, H0, S, r, ok, p⟩ => by
  unfold augF dVar at p
  split at p
  · rename_i d hd
    obtain ⟨v, h1, h2⟩ := ok.slot i d hd
    rw [k] at h2
    refine ⟨v, h1, st_seq hg ok p fun y u S1 H1 w1 o1 m1 p1 => ?_⟩
    cases d with
    | int a =>
      cases y with
      | int b => cases h2; cases m1; exact ⟨a, b, rfl, rfl, p1 _ S1 H1 (o1.setV i (.int _))⟩
      | _ => exact p1.elim
    | _ => exact p1.elim
  · exact p.elim
end
end Dx

end S_DxT
section S_DxS
set_option Elab.async false
set_option linter.all false
set_option maxRecDepth 100000
set_option maxHeartbeats 2000000
/-! Dx, part S: own lists that stand in each other. -/
namespace Dx
open PySem L2

def noSW (G : List Ow) : Prop := ∀ i, kd G i ≠ .s ∧ kd G i ≠ .w
def plainK : Ow → Bool
  | .s => false
  | .w => false
  | _ => true
theorem noSW_of {G : List Ow} (h : G.all plainK = true) : noSW G := fun i => by
  unfold kd
  rw [List.getD_eq_getElem?_getD]
  cases e : G[i]? with
  | none => exact ⟨fun z => (by cases z), fun z => (by cases z)⟩
  | some k =>
    have := List.all_eq_true.mp h k (List.mem_of_getElem? e)
    refine ⟨fun z => ?_, fun z => ?_⟩
    · have z : k = .s := z
      rw [z] at this; cases this
    · have z : k = .w := z
      rw [z] at this; cases this
def noS : Ow → Bool
  | .s => false
  | _ => true
theorem onlyS_of {G : List Ow} {i0 : Nat} (h : (G.set i0 .v).all noS = true) : ∀ j, kd G j = .s → j = i0 := fun j hj => by
  by_cases ne : i0 = j
  · exact ne.symm
  · exfalso
    have h2 : kd (G.set i0 .v) j = .s := (kd_set_ne ne).trans hj
    unfold kd at h2
    rw [List.getD_eq_getElem?_getD] at h2
    cases e : (G.set i0 .v)[j]? with
    | none => rw [e] at h2; cases h2
    | some k =>
      rw [e] at h2
      have h2 : k = .s := h2
      have := List.all_eq_true.mp h k (List.mem_of_getElem? e)
      rw [h2] at this; cases this
/-- new own lists that stand in each other -/
def mG (c : Cf) : Md V D := fun H S' H' v d => ∃ k M A, d = .st k M ∧ A.Nodup ∧ A.length = M.length ∧ (∃ a, A[k]? = some a ∧ v = .ref a) ∧ (∀ a ∈ A, H a = none ∧ S' a = none) ∧
  ∀ (n : Nat) row, M[n]? = some row → ∃ a xs, A[n]? = some a ∧ H' a = some (.lst xs) ∧ RmA c.K c.cm A S' xs row
instance {c : Cf} : Anti (mG c) := ⟨fun e ⟨k, M, A, h1, h2, h3, h4, h5, h6⟩ => ⟨k, M, A, h1, h2, h3, h4, fun a ha => ⟨e.nn (h5 a ha).1, (h5 a ha).2⟩, h6⟩⟩
section
variable {X : Cx} {c : Cf} {L G G' : List Ow} {σ : St} {S0 H0 S H S' H' : Hp} {r : Rho}
theorem EnvOk.setS (e : EnvOk c S0 H0 G S H σ r) (f : Fwd S H S' H') {v : V} {d : D} (i : Nat) (hi : i < G.length) (hn : noSW (G.set i .v)) (m : mG c H S' H' v d) :
    EnvOk c S0 H0 (G.set i .s) S' H' (σ.set i (some v)) (r.set i (some d)) := by
  obtain ⟨k, M, A, rfl, m1, m2, ⟨a, m3, rfl⟩, m4, m5⟩ := m
  have e' := e.go f
  have only : ∀ j, kd (G.set i .s) j = .s → i = j := fun j hj => by
    by_cases ne : i = j
    · exact ne
    · rw [kd_set_ne ne] at hj
      have := (hn j).1
      rw [kd_set_ne ne] at this
      exact absurd hj this
  refine ⟨e'.fwd, by simp [e.len], fun j b hb => ?_, fun j l b b' q hj hk kj kk sj sk => ?_, A, m1, fun x hx => ?_, fun j b p hj kj sj => ?_, fun j k' M' kj hj => ?_, fun j k' kj hj => ?_⟩
  · rcases set_some hb with ⟨rfl, ea, hl⟩ | ⟨ne, hb⟩
    · cases ea
      exact ⟨.ref a, by rw [List.getElem?_set_self (by rw [e.len]; exact hl)], by rw [kd_set_o hi]; exact ⟨k, M, rfl⟩⟩
    · obtain ⟨u, h1, h2⟩ := e'.slot j b hb
      exact ⟨u, by rw [List.getElem?_set_ne ne]; exact h1, by rw [kd_set_ne ne]; exact h2⟩
  · have nj : i ≠ j := fun z => by subst z; rw [kd_set_o hi] at kj; cases kj
    have nk : i ≠ l := fun z => by subst z; rw [kd_set_o hi] at kk; cases kk
    rw [List.getElem?_set_ne nj] at hj sj
    rw [List.getElem?_set_ne nk] at hk sk
    rw [kd_set_ne nj] at kj
    rw [kd_set_ne nk] at kk
    exact e.sep j l b b' q hj hk kj kk sj sk
  · obtain ⟨n, hn'⟩ := List.mem_iff_getElem?.mp hx
    have hlt : n < M.length := by rw [← m2]; exact (List.getElem?_eq_some_iff.mp hn').1
    obtain ⟨a', xs, z1, z2, z3⟩ := m5 n M[n] (List.getElem?_eq_getElem hlt)
    rw [hn'] at z1; cases z1
    exact ⟨(m4 x hx).2, e.fwd.h.nn (m4 x hx).1, xs, z2⟩
  · have nj : i ≠ j := fun z => by subst z; rw [kd_set_o hi] at kj; cases kj
    rw [List.getElem?_set_ne nj] at hj sj
    rw [kd_set_ne nj] at kj
    intro hp
    obtain ⟨q, ho, s1, s2, _⟩ := e.own kj hj
    rw [sj] at s1; cases s1
    rw [(m4 p hp).1] at s2; cases s2
  · have ij := only j kj
    subst ij
    rcases set_some hj with ⟨_, ea, hl⟩ | ⟨ne, _⟩
    · cases ea
      exact ⟨m2, ⟨a, m3, by rw [List.getElem?_set_self (by rw [e.len]; exact hl)]⟩, m5⟩
    · exact absurd rfl ne
  · exfalso
    by_cases ne : i = j
    · subst ne; rw [kd_set_o hi] at kj; cases kj
    · rw [kd_set_ne ne] at kj
      have := (hn j).2
      rw [kd_set_ne ne] at this
      exact this kj
variable {e : Expr} {pos : Pos} {f : Rho → Res D}
/-- x = e, new own lists in each other -/
theorem ds_setS (i : Nat) {x : Str} {pos' : Pos} (hg : Gok c G) (hG : i < G.length) (hn : noSW (G.set i .v)) (hN : X.N.Nodup) (hi : X.N[i]? = some x) (hx : Loc X.env.scope x) (he : PE X e (rd c G f (mG c))) (hs : swapsWith e (some (.Name x pos')) pos.line X.env = pure false := by rfl)
    (hf : X.fn x = true ∨ X.env.scope.names.lookup x = some .local := by first | exact .inl rfl | exact .inr rfl | assumption) : PS X (.Assign [.Name x pos'] e pos) (sD c L G (G.set i .s) (setF i f)) :=
  ps_imp (ps_set hN hi hx he hs hf) fun E σ H ⟨S0, H0, S, r, ok, p⟩ => st_seq hg ok p fun d v S1 H1 w1 o1 m1 p1 => p1 _ S1 H1 (ok.setS w1 i hG hn m1)
/-! ### places -/
/-- one of the own lists -/
def tW (c : Cf) (G : List Ow) (f : Rho → Res Nat) : TE := fun σ H Q => ∃ S0 H0 S r A, EnvOk c S0 H0 G S H σ r ∧ StoOk c.K c.cm H0 G S H σ r A ∧ PostG c σ S H (f r) fun k S' H' => ∀ a, A[k]? = some a → Q (.ref a) H'
def wRoot (i : Nat) : Rho → Res Nat := fun r => match r[i]? with
  | some (some (.st k _)) => .ok k
  | _ => .bad
def wVar (i : Nat) : Rho → Res Nat := fun r => match r[i]? with
  | some (some (.own k)) => .ok k
  | _ => .bad
def rowsR (i : Nat) (r : Rho) : List (List D) := match r[i]? with
  | some (some (.st _ M)) => M
  | _ => []
/-- the row k of the lists in slot i0 -/
def rowAt (i0 : Nat) (r : Rho) (k : Nat) : Res (List D) := match (rowsR i0 r)[k]? with
  | some row => .ok row
  | none => .bad
theorem dw_root (i : Nat) {x : Str} (h : PE X (.Name x pos) (tVar i)) (k : kd G i = .s) : PE X (.Name x pos) (tW c G (wRoot i)) := pe_imp h fun σ H Q ⟨S0, H0, S, r, A, ok, so, p⟩ => by
  unfold wRoot at p
  split at p
  · rename_i n M hd
    obtain ⟨_, ⟨a, h1, h2⟩, _⟩ := so.st i n M k hd
    exact ⟨_, h2, p.go ok.ex a h1⟩
  · exact p.elim
theorem dw_var (i : Nat) {x : Str} (h : PE X (.Name x pos) (tVar i)) (k : kd G i = .w) : PE X (.Name x pos) (tW c G (wVar i)) := pe_imp h fun σ H Q ⟨S0, H0, S, r, A, ok, so, p⟩ => by
  unfold wVar at p
  split at p
  · rename_i n hd
    obtain ⟨a, h1, h2⟩ := so.al i n k hd
    exact ⟨_, h2, p.go ok.ex a h1⟩
  · exact p.elim
theorem of_row {A : List Addr} {i0 k : Nat} {kk : List D → Hp → Hp → Prop} (k0 : kd G i0 = .s) (so : StoOk c.K c.cm H0 G S H σ r A) {S1 H1 : Hp} (p : PostG c σ S1 H1 (rowAt i0 r k) kk) :
    ∃ row a xs, A[k]? = some a ∧ H a = some (.lst xs) ∧ RmA c.K c.cm A S xs row ∧ (rowsR i0 r)[k]? = some row ∧ PostG c σ S1 H1 (.ok row) kk := by
  unfold rowAt at p
  split at p
  · rename_i row hrow
    have hr := hrow
    unfold rowsR at hr
    split at hr
    · rename_i k' M hd
      obtain ⟨a, xs, h1, h2, h3⟩ := (so.st i0 k' M k0 hd).2.2 k row hr
      exact ⟨row, a, xs, h1, h2, h3, hrow, p⟩
    · simp at hr
  · exact p.elim
def isOwn : D → Bool
  | .own _ => true
  | .st _ _ => true
  | _ => false
theorem RmA.plain {A : List Addr} {xs : List V} {row : List D} (h : RmA c.K c.cm A S xs row) (hp : row.all (fun d => !isOwn d) = true) : RpA c.K c.cm S xs row := by
  obtain ⟨hl, h⟩ := h
  induction row generalizing xs with
  | nil =>
    cases xs with
    | nil => exact .nil
    | cons _ _ => cases hl
  | cons d row ih =>
    cases xs with
    | nil => cases hl
    | cons v xs =>
      rw [List.all_cons, Bool.and_eq_true] at hp
      refine .cons ?_ (ih hp.2 (by simpa using hl) fun i v d hv hd => h (i + 1) v d (by simpa using hv) (by simpa using hd))
      rcases h 0 v d rfl rfl with z | ⟨k, a, rfl, _⟩
      · exact z
      · cases hp.1
/-- such a list, read, where its items are values -/
def wRow (i0 : Nat) (f : Rho → Res Nat) : Rho → Res D := fun r => (f r).bind fun k => (rowAt i0 r k).bind fun row => if row.all (fun d => !isOwn d) = true then .ok (.lst row) else .bad
theorem db_row (i0 : Nat) {f : Rho → Res Nat} (k0 : kd G i0 = .s) (h : PE X e (tW c G f)) : PE X e (tR c G (wRow i0 f)) := pe_imp h fun σ H Q ⟨S0, H0, S, r, ok, p⟩ => by
  obtain ⟨A, so⟩ := ok.sto
  refine ⟨S0, H0, S, r, A, ok, so, p.unbind.imp fun k S1 H1 w1 p1 a ha => ?_⟩
  obtain ⟨row, a', xs, h1, h2, h3, _, p2⟩ := of_row k0 (so.go w1) p1.unbind
  rw [ha] at h1; cases h1
  have p3 := p2.go w1.sub
  split at p3
  · rename_i hp
    exact p3.go w1.sub _ (.inr ⟨a, _, rfl, h2, .lst (h3.plain hp)⟩)
  · exact p3.elim
/-- len of such a list -/
def wLen (i0 : Nat) (f : Rho → Res Nat) : Rho → Res D := fun r => (f r).bind fun k => (rowAt i0 r k).bind fun row => .ok (.int row.length)
theorem de_wlen (i0 : Nat) {f : Rho → Res Nat} {p : Pos} (k0 : kd G i0 = .s) (hm : X.mg "len" = none) (hg : Gl X "len") (h : PE X e (tW c G f)) (hK : c.K = X.K := by rfl)
    (he : starEach [e] X.env = (false, eval e X.env) :: starEach [] X.env := by rfl) :
    PE X (.Call (.Name "len" p) [e] [] pos) (tV c G (wLen i0 f)) := by
  refine pe_imp (pe_callB call_len hg hm (by decide +kernel) (pa_cons h pa_nil he) (he := he) (hpl := rfl)) fun σ H Q ⟨S0, H0, S, r, ok, p⟩ => ?_
  obtain ⟨A, so⟩ := ok.sto
  refine ⟨S0, H0, S, r, A, ok, so, p.unbind.imp fun k S1 H1 w1 p1 a ha => ?_⟩
  obtain ⟨row, a', xs, h1, h2, h3, _, p2⟩ := of_row k0 (so.go w1) p1.unbind
  rw [ha] at h1; cases h1
  exact ⟨.ref a, row.length, rfl, .inl ⟨xs, .inl (.inl h2), h3.1.symm⟩, (p2.go w1.sub).go w1.sub _ (.int _)⟩
/-- P[i], again such a list -/
def wAt (i0 : Nat) (f : Rho → Res Nat) (fi : Rho → Res D) : Rho → Res Nat := fun r => (f r).bind fun k => (fi r).bind fun d => (asI d).bind fun j => (rowAt i0 r k).bind fun row => match L2.atI row j with
  | some (.own k') => .ok k'
  | _ => .bad
theorem RmA.atI {A : List Addr} {xs : List V} {row : List D} {j : Int} {d : D} (h : RmA c.K c.cm A S xs row) (q : L2.atI row j = some d) : ∃ v, L2.atI xs j = some v ∧ RmV c.K c.cm A S v d := by
  unfold L2.atI at q ⊢
  rw [h.1]
  cases hj : ixN row.length j with
  | none => rw [hj] at q; cases q
  | some n =>
    rw [hj] at q
    have q : row[n]? = some d := q
    have hlt : n < xs.length := by rw [h.1]; exact (List.getElem?_eq_some_iff.mp q).1
    exact ⟨xs[n], List.getElem?_eq_getElem hlt, h.2 n _ d (List.getElem?_eq_getElem hlt) q⟩
theorem dw_at (i0 : Nat) {a b : Expr} {f : Rho → Res Nat} {fi : Rho → Res D} (k0 : kd G i0 = .s) (ha : PE X a (tW c G f)) (hb : PE X b (tV c G fi)) (hs : PlainIx b) (hK : c.K = X.K := by rfl) : PE X (.Subscript a b pos) (tW c G (wAt i0 f fi)) :=
  pe_imp (pe_ix ix_list ha hb hs) fun σ H Q ⟨S0, H0, S, r, A, ok, so, p⟩ => by
    refine ⟨S0, H0, S, r, A, ok, so, p.unbind.imp fun k S1 H1 w1 p1 a ha => ?_⟩
    refine ⟨S0, H0, S1, r, ok.go w1, p1.unbind.imp fun d S2 H2 w2 p2 v hv => ?_⟩
    obtain ⟨j, rfl, p3⟩ := of_asI p2.unbind
    cases hv
    obtain ⟨row, a', xs, h1, h2, h3, _, p4⟩ := of_row k0 ((so.go w1).go w2) (p3.go w2.sub).unbind
    rw [ha] at h1; cases h1
    have p5 := p4.go w2.sub
    split at p5
    · rename_i k' hat
      obtain ⟨v, q1, q2⟩ := h3.atI hat
      rcases q2 with q2 | ⟨k2, a2, e2, q3, rfl⟩
      · cases q2
      · cases e2
        exact ⟨a, xs, j, .ref a2, rfl, rfl, .inl (.inl h2), q1, p5.go w2.sub a2 q3⟩
    · exact p5.elim
/-- P[i], a value -/
def wIx (i0 : Nat) (f : Rho → Res Nat) (fi : Rho → Res D) : Rho → Res D := fun r => (f r).bind fun k => (fi r).bind fun d => (asI d).bind fun j => (rowAt i0 r k).bind fun row => match L2.atI row j with
  | some d => if isOwn d = true then .bad else .ok d
  | _ => .bad
theorem de_wix (i0 : Nat) {a b : Expr} {f : Rho → Res Nat} {fi : Rho → Res D} (k0 : kd G i0 = .s) (ha : PE X a (tW c G f)) (hb : PE X b (tV c G fi)) (hs : PlainIx b) (hK : c.K = X.K := by rfl) : PE X (.Subscript a b pos) (tV c G (wIx i0 f fi)) :=
  pe_imp (pe_ix ix_list ha hb hs) fun σ H Q ⟨S0, H0, S, r, ok, p⟩ => by
    obtain ⟨A, so⟩ := ok.sto
    refine ⟨S0, H0, S, r, A, ok, so, p.unbind.imp fun k S1 H1 w1 p1 a ha => ?_⟩
    refine ⟨S0, H0, S1, r, ok.go w1, p1.unbind.imp fun d S2 H2 w2 p2 v hv => ?_⟩
    obtain ⟨j, rfl, p3⟩ := of_asI p2.unbind
    cases hv
    obtain ⟨row, a', xs, h1, h2, h3, _, p4⟩ := of_row k0 ((so.go w1).go w2) (p3.go w2.sub).unbind
    rw [ha] at h1; cases h1
    have p5 := p4.go w2.sub
    split at p5
    · rename_i d hat
      split at p5
      · exact p5.elim
      · rename_i hno
        obtain ⟨v, q1, q2⟩ := h3.atI hat
        rcases q2 with q2 | ⟨k2, a2, rfl, q3, rfl⟩
        · exact ⟨a, xs, j, v, rfl, rfl, .inl (.inl h2), q1, p5.go w2.sub v q2⟩
        · exact absurd rfl hno
    · exact p5.elim
/-! ### statements -/
/-- a slot is set to one of the own lists -/
theorem EnvOk.setW (e : EnvOk c S0 H0 G S H σ r) {A : List Addr} (so : StoOk c.K c.cm H0 G S H σ r A) {k : Nat} {a : Addr} (i : Nat) (hi : i < G.length) (ha : A[k]? = some a) :
    EnvOk c S0 H0 (G.set i .w) S H (σ.set i (some (.ref a))) (r.set i (some (.own k))) := by
  refine ⟨e.fwd, by simp [e.len], fun j b hb => ?_, fun j l b b' q hj hk kj kk sj sk => ?_, A, so.nod, so.out, fun j b p hj kj sj => ?_, fun j k' M' kj hj => ?_, fun j k' kj hj => ?_⟩
  · rcases set_some hb with ⟨rfl, ea, hl⟩ | ⟨ne, hb⟩
    · cases ea
      exact ⟨.ref a, by rw [List.getElem?_set_self (by rw [e.len]; exact hl)], by rw [kd_set_o hi]; exact ⟨k, rfl⟩⟩
    · obtain ⟨u, h1, h2⟩ := e.slot j b hb
      exact ⟨u, by rw [List.getElem?_set_ne ne]; exact h1, by rw [kd_set_ne ne]; exact h2⟩
  · have nj : i ≠ j := fun z => by subst z; rw [kd_set_o hi] at kj; cases kj
    have nk : i ≠ l := fun z => by subst z; rw [kd_set_o hi] at kk; cases kk
    rw [List.getElem?_set_ne nj] at hj sj
    rw [List.getElem?_set_ne nk] at hk sk
    rw [kd_set_ne nj] at kj
    rw [kd_set_ne nk] at kk
    exact e.sep j l b b' q hj hk kj kk sj sk
  · have nj : i ≠ j := fun z => by subst z; rw [kd_set_o hi] at kj; cases kj
    rw [List.getElem?_set_ne nj] at hj sj
    rw [kd_set_ne nj] at kj
    exact so.own j b p hj kj sj
  · have nj : i ≠ j := fun z => by subst z; rw [kd_set_o hi] at kj; cases kj
    rw [List.getElem?_set_ne nj] at hj
    rw [kd_set_ne nj] at kj
    rw [List.getElem?_set_ne nj]
    exact so.st j k' M' kj hj
  · rcases set_some hj with ⟨rfl, ea, hl⟩ | ⟨ne, hj⟩
    · cases ea
      exact ⟨a, ha, by rw [List.getElem?_set_self (by rw [e.len]; exact hl)]⟩
    · rw [kd_set_ne ne] at kj
      rw [List.getElem?_set_ne ne]
      exact so.al j k' kj hj
/-- y = P -/
def aliF (i : Nat) (f : Rho → Res Nat) : Rho → SR := fun r => liftS r (f r) fun k => .nx (r.set i (some (.own k)))
theorem PostS.lift {α : Type} {x : Res α} {k : α → SR} {E : Ends} (hg : Gok c G) (ok : EnvOk c S0 H0 G S H σ r) (p : PostS c S0 H0 L G' (liftS r x k) E) : PostG c σ S H x fun a S' H' => EnvOk c S0 H0 G S' H' σ r ∧ PostS c S0 H0 L G' (k a) E := by
  cases x with
  | ok a => exact fun S' H' fw => ⟨ok.go fw, p⟩
  | err n ns vs => exact fun C dd S' H' fs h1 fw h2 h3 h4 => p C dd σ S' H' fs h1 (ok.fwd.trans fw) (fun g q => by rw [hg g q]; exact ok.go fw) h2 h3 h4
  | bad => exact p.elim
theorem ds_ali (i : Nat) {x : Str} {pos' : Pos} {f : Rho → Res Nat} (hg : Gok c G) (hG : i < G.length) (hN : X.N.Nodup) (hi : X.N[i]? = some x) (hx : Loc X.env.scope x) (he : PE X e (tW c G f)) (hs : swapsWith e (some (.Name x pos')) pos.line X.env = pure false := by rfl)
    (hf : X.fn x = true ∨ X.env.scope.names.lookup x = some .local := by first | exact .inl rfl | exact .inr rfl | assumption) : PS X (.Assign [.Name x pos'] e pos) (sD c L G (G.set i .w) (aliF i f)) :=
  ps_imp (ps_set hN hi hx he hs hf) fun E σ H ⟨S0, H0, S, r, ok, p⟩ => by
    obtain ⟨A, so⟩ := ok.sto
    exact ⟨S0, H0, S, r, A, ok, so, (PostS.lift hg ok p).imp fun k S1 H1 w1 ⟨o1, p1⟩ a ha => p1 _ S1 H1 (o1.setW (so.go w1) i hG ha)⟩
/-- row k of the lists in slot i0 is changed -/
def putRow (i0 : Nat) (r : Rho) (k : Nat) (row : List D) : Rho := match r[i0]? with
  | some (some (.st k0 M)) => r.set i0 (some (.st k0 (M.set k row)))
  | _ => r
theorem EnvOk.mutW (e : EnvOk c S0 H0 G S H σ r) {A : List Addr} (so : StoOk c.K c.cm H0 G S H σ r A) {i0 k : Nat} {a : Addr} {xs : List V} {row row' : List D} (h0 : kd G i0 = .s) (ha : A[k]? = some a) (hr : (rowsR i0 r)[k]? = some row) (h1 : ∀ j, kd G j = .s → j = i0) (hx : RmA c.K c.cm A S xs row') :
    EnvOk c S0 H0 G S (upd H a (.lst xs)) σ (putRow i0 r k row') := by
  unfold rowsR at hr
  split at hr
  · rename_i k0 M hd
    have hput : putRow i0 r k row' = r.set i0 (some (.st k0 (M.set k row'))) := by unfold putRow; rw [hd]
    rw [hput]
    have hA := List.mem_of_getElem? ha
    obtain ⟨o1, o2, _⟩ := so.out a hA
    have hf : Fwd S0 H0 S (upd H a (.lst xs)) := ⟨e.fwd.s, e.fwd.h.put o2, e.fwd.sub.put o1, e.fwd.new⟩
    have sm : ∀ j b, (r.set i0 (some (.st k0 (M.set k row'))))[j]? = some (some b) → kd G j ≠ .s → r[j]? = some (some b) := fun j b hb kj => by
      rcases set_some hb with ⟨rfl, _, _⟩ | ⟨_, hb⟩
      · exact absurd h0 kj
      · exact hb
    refine ⟨hf, by simp [e.len], fun j b hb => ?_, fun j l b b' q hj hk kj kk sj sk => ?_, A, so.nod, fun x hx' => ?_, fun j b p hj kj sj => ?_, fun j k' M' kj hj => ?_, fun j k' kj hj => ?_⟩
    · rcases set_some hb with ⟨rfl, ea, hl⟩ | ⟨ne, hb⟩
      · cases ea
        obtain ⟨v, q1, q2⟩ := e.slot i0 _ hd
        exact ⟨v, q1, by rw [h0]; exact ⟨_, _, rfl⟩⟩
      · obtain ⟨u, q1, q2⟩ := e.slot j b hb
        refine ⟨u, q1, ?_⟩
        cases kj : kd G j with
        | v => rw [kj] at q2; exact q2
        | b => rw [kj] at q2; exact q2
        | s => rw [kj] at q2; exact q2
        | w => rw [kj] at q2; exact q2
        | x a C dd => rw [kj] at q2; exact q2
        | o =>
          rw [kj] at q2
          obtain ⟨q, hq, z1, z2, z3, z4, z5⟩ := q2
          subst z1
          have : q ≠ a := fun z => by subst z; exact so.own j b q hb kj q1 hA
          exact ⟨q, hq, rfl, by rw [upd_ne this]; exact z2, z3, z4, z5⟩
    · exact e.sep j l b b' q (sm j b hj (by rw [kj]; intro z; cases z)) (sm l b' hk (by rw [kk]; intro z; cases z)) kj kk sj sk
    · obtain ⟨z1, z2, z3⟩ := so.out x hx'
      refine ⟨z1, z2, ?_⟩
      by_cases hxa : x = a
      · subst hxa; exact ⟨xs, upd_same⟩
      · rw [upd_ne hxa]; exact z3
    · exact so.own j b p (sm j b hj (by rw [kj]; intro z; cases z)) kj sj
    · have hj0 := h1 j kj
      subst hj0
      rcases set_some hj with ⟨_, ea, _⟩ | ⟨ne, _⟩
      · cases ea
        obtain ⟨y1, y2, y3⟩ := so.st j _ _ h0 hd
        refine ⟨by rw [List.length_set]; exact y1, y2, fun n row2 hn => ?_⟩
        rw [List.getElem?_set] at hn
        split at hn
        · rename_i hkn
          subst hkn
          split at hn
          · cases hn
            exact ⟨a, xs, ha, upd_same, hx⟩
          · cases hn
        · rename_i hkn
          obtain ⟨a2, xs2, g1, g2, g3⟩ := y3 n row2 hn
          have : a2 ≠ a := fun z => by
            subst z
            have l1 := (List.getElem?_eq_some_iff.mp g1).1
            exact hkn ((List.getElem?_inj l1 so.nod).mp (g1.trans ha.symm)).symm
          exact ⟨a2, xs2, g1, by rw [upd_ne this]; exact g2, g3⟩
      · exact absurd rfl ne
    · exact so.al j k' kj (sm j _ hj (by rw [kj]; intro z; cases z))
  · simp at hr
/-- P[i] = e, the new item a value -/
def wSto (i0 : Nat) (f : Rho → Res Nat) (fi fe : Rho → Res D) : Rho → SR := fun r => liftS r (fe r) fun d => liftS r (f r) fun k => liftS r (fi r) fun jd => liftS r (asI jd) fun j => liftS r (rowAt i0 r k) fun row => match ixN row.length j with
  | some n => if isOwn d = true then .bad else .nx (putRow i0 r k (row.set n d))
  | none => .bad
theorem RmA.set {A : List Addr} {xs : List V} {row : List D} {v : V} {d : D} (h : RmA c.K c.cm A S xs row) (hv : Rp c.K c.cm S v d) (n : Nat) : RmA c.K c.cm A S (xs.set n v) (row.set n d) := by
  refine ⟨by rw [List.length_set, List.length_set]; exact h.1, fun i u e hu he => ?_⟩
  rw [List.getElem?_set] at hu he
  split at hu
  · rename_i hni
    rw [if_pos hni] at he
    split at hu
    · cases hu
      split at he
      · cases he; exact .inl hv
      · cases he
    · cases hu
  · rename_i hni
    rw [if_neg hni] at he
    exact h.2 i u e hu he
theorem ds_wsto (i0 : Nat) {b ix : Expr} {p' : Pos} {f : Rho → Res Nat} {fi fe : Rho → Res D} (hg : Gok c G) (h0 : kd G i0 = .s) (h1 : ∀ j, kd G j = .s → j = i0) (ho : PE X b (tW c G f)) (hi : PE X ix (tV c G fi)) (he : PE X e (tV c G fe))
    (ha : ∀ v, assign (.Subscript b ix p') X.env v = (do
      let ov ← holding [v] (eval b X.env)
      let iv ← holding [v, ov] (eval ix X.env)
      standAt p'
      holding [v, ov, iv] (setItem ov iv v)
      release [v, ov, iv] []) := by intro _; rfl)
    (hs : swapsWithSole [.Subscript b ix p'] e pos.line X.env = pure false := by rfl) (hw : swappedStores [.Subscript b ix p'] e X.env = pure none := by rfl)
    (h2 : (assignEach [.Subscript b ix p'] X.env).map (·.2) = [assign (.Subscript b ix p') X.env] := by rfl) :
    PS X (.Assign [.Subscript b ix p'] e pos) (sD c L G G (wSto i0 f fi fe)) :=
  ps_imp (ps_asg he (pg_sub ho hi set_list ha) hs hw h2) fun E σ H ⟨S0, H0, S, r, ok, p⟩ => st_seq hg ok p fun d v S1 H1 w1 o1 m1 p1 => by
    obtain ⟨A, so⟩ := o1.sto
    refine ⟨S0, H0, S1, r, A, o1, so, (PostS.lift hg o1 p1).imp fun k S2 H2 w2 ⟨o2, p2⟩ a hka => ?_⟩
    refine ⟨S0, H0, S2, r, o2, (PostS.lift hg o2 p2).imp fun jd S3 H3 w3 ⟨o3, p3⟩ u hu => ?_⟩
    obtain ⟨j, rfl, p4⟩ := of_asI (PostS.lift hg o3 p3)
    cases hu
    obtain ⟨_, p4⟩ := p4.go w3.sub
    have so3 := (so.go w2).go w3
    obtain ⟨row, a', xs, g1, g2, g3, g4, p5⟩ := of_row h0 so3 (PostS.lift hg o3 p4)
    rw [hka] at g1; cases g1
    obtain ⟨_, p6⟩ := p5.go w3.sub
    split at p6
    · rename_i n hn
      split at p6
      · exact p6.elim
      · exact ⟨a, xs, j, n, rfl, rfl, g2, by rw [g3.1]; exact hn, p6 σ S3 _ (o3.mutW so3 h0 hka g4 h1 (g3.set (Rp.mono (w2.s.trans w3.s) m1) n))⟩
    · exact p6.elim
end
end Dx

end S_DxS
section S_DxU
set_option Elab.async false
set_option linter.all false
set_option maxRecDepth 100000
set_option maxHeartbeats 2000000
/-! Dx, part U: own lists in each other: how they begin (a comprehension) and how they become values. -/
namespace Dx
open PySem L2
/-! ### all of them become values -/
def optL (g : D → Option D) : List D → Option (List D)
  | [] => some []
  | d :: ds => match g d, optL g ds with
    | some e, some es => some (e :: es)
    | _, _ => none
def derefD : Nat → List (List D) → D → Option D
  | _, _, .st _ _ => none
  | 0, _, .own _ => none
  | n + 1, M, .own k => match M[k]? with
    | some row => match optL (derefD n M) row with
      | some ds => some (.lst ds)
      | none => none
    | none => none
  | _, _, d => some d
section
variable {X : Cx} {c : Cf} {L G G' : List Ow} {σ : St} {S0 H0 S H S' H' : Hp} {r : Rho}
theorem optL_rp {K : PySem.W.Frag} {cm : CM} {A : List Addr} {g : D → Option D} (hg : ∀ v d d', RmV K cm A S v d → g d = some d' → Rp K cm S' v d') : ∀ {xs : List V} {row ds : List D}, RmA K cm A S xs row → optL g row = some ds → RpA K cm S' xs ds
  | [], [], _, _, h => by cases h; exact .nil
  | [], _ :: _, _, h, _ => by cases h.1
  | _ :: _, [], _, h, _ => by cases h.1
  | x :: xs, d :: row, ds, h, q => by
    unfold optL at q
    split at q
    · rename_i e es h1 h2
      cases q
      exact .cons (hg x d e (h.2 0 x d rfl rfl) h1) (optL_rp hg ⟨by simpa using h.1, fun i v d hv hd => h.2 (i + 1) v d (by simpa using hv) (by simpa using hd)⟩ h2)
    · cases q
theorem deref_rp {K : PySem.W.Frag} {cm : CM} {A : List Addr} {M : List (List D)} (eS : Ex S S') (hM : ∀ (n : Nat) row, M[n]? = some row → ∃ a xs, A[n]? = some a ∧ S' a = some (.lst xs) ∧ RmA K cm A S xs row) : ∀ (n : Nat) (v : V) (d d' : D), RmV K cm A S v d → derefD n M d = some d' → Rp K cm S' v d' := by
  intro n
  induction n with
  | zero =>
    intro v d d' h q
    rcases h with h | ⟨k, a, rfl, _⟩
    · cases d with
      | st _ _ => cases h
      | own _ => cases h
      | _ => cases q; exact h.mono eS
    · cases q
  | succ n ih =>
    intro v d d' h q
    rcases h with h | ⟨k, a, rfl, h1, rfl⟩
    · cases d with
      | st _ _ => cases h
      | own _ => cases h
      | _ => cases q; exact h.mono eS
    · unfold derefD at q
      split at q
      · rename_i row hrow
        split at q
        · rename_i ds hds
          cases q
          obtain ⟨a', xs, g1, g2, g3⟩ := hM k row hrow
          rw [h1] at g1; cases g1
          exact .lst g2 (optL_rp ih g3 hds)
        · cases q
      · cases q
def setVs (G : List Ow) : List Nat → List Ow
  | [] => G
  | i :: is => (setVs G is).set i .v
theorem kd_setVs (G : List Ow) : ∀ (is : List Nat) (j : Nat), kd (setVs G is) j = if j ∈ is then .v else kd G j
  | [], j => by simp [setVs]
  | i :: is, j => by
    by_cases h : i = j
    · subst h
      rw [setVs, kd_set_self]; simp
    · rw [setVs, kd_set_ne h, kd_setVs G is j]
      simp [Ne.symm h]
/-- all the own lists of slot i become values; the slots ws, that hold some of them, are given up -/
def pubF (n i : Nat) (ws : List Nat) : Rho → SR := fun r => match r[i]? with
  | some (some (.st k M)) => match derefD n M (.own k) with
    | some d => .nx ((wipeR r ws).set i (some d))
    | none => .bad
  | _ => .bad
theorem ds_pubS (n i : Nat) (ws : List Nat) {sts : List Stmt} {F : Rho → SR} (k0 : kd G i = .s) (hn : noSW (setVs G (i :: ws))) (h : PSs X sts (sD c L (setVs G (i :: ws)) G' F)) : PSs X sts (sD c L G G' (seqF (pubF n i ws) F)) := pss_imp h fun E σ H ⟨S0, H0, S, r, ok, p⟩ => by
  have key : ∃ k M d, r[i]? = some (some (.st k M)) ∧ derefD n M (.own k) = some d ∧ PostS c S0 H0 L G' (F ((wipeR r ws).set i (some d))) E := by
    unfold seqF at p
    cases hq : r[i]? with
    | none =>
      have e : pubF n i ws r = .bad := by unfold pubF; rw [hq]
      rw [e] at p; exact p.elim
    | some od =>
      cases od with
      | none =>
        have e : pubF n i ws r = .bad := by unfold pubF; rw [hq]
        rw [e] at p; exact p.elim
      | some dd =>
        cases dd with
        | st k M =>
          cases hd : derefD n M (.own k) with
          | none =>
            have e : pubF n i ws r = .bad := by unfold pubF; rw [hq]; dsimp only; rw [hd]
            rw [e] at p; exact p.elim
          | some d =>
            have e : pubF n i ws r = .nx ((wipeR r ws).set i (some d)) := by unfold pubF; rw [hq]; dsimp only; rw [hd]
            rw [e] at p
            exact ⟨k, M, d, rfl, hd, p⟩
        | _ =>
          have e : pubF n i ws r = .bad := by unfold pubF; rw [hq]
          rw [e] at p; exact p.elim
  obtain ⟨k, M, d, hd, hde, p⟩ := key
  obtain ⟨A, so⟩ := ok.sto
  obtain ⟨s1, ⟨a, s2, s3⟩, s4⟩ := so.st i k M k0 hd
  let S' : Hp := fun x => if x ∈ A then H x else S x
  have hin : ∀ x, x ∈ A → S' x = H x := fun x hx => if_pos hx
  have hout : ∀ x, x ∉ A → S' x = S x := fun x hx => if_neg hx
  have eS : Ex S S' := fun x o hx => by
    have : x ∉ A := fun z => by rw [(so.out x z).1] at hx; cases hx
    rw [hout x this]; exact hx
  have eH : Ex S' H := fun x o hx => by
    by_cases z : x ∈ A
    · rw [hin x z] at hx; exact hx
    · rw [hout x z] at hx; exact ok.ex x o hx
  have fw : Fwd S0 H0 S' H := ⟨ok.fwd.s.trans eS, ok.fwd.h, eH, fun x o hx hn0 => by
    by_cases z : x ∈ A
    · exact (so.out x z).2.1
    · rw [hout x z] at hx; exact ok.fwd.new x o hx hn0⟩
  have hrp : Rp c.K c.cm S' (.ref a) d := deref_rp eS (fun n row hrow => by
    obtain ⟨b, xs, g1, g2, g3⟩ := s4 n row hrow
    exact ⟨b, xs, g1, by rw [hin b (List.mem_of_getElem? g1)]; exact g2, g3⟩) n (.ref a) (.own k) d (.inr ⟨k, a, rfl, s2, rfl⟩) hde
  have get : ∀ j b, ((wipeR r ws).set i (some d))[j]? = some (some b) → (i = j ∧ b = d) ∨ (i ≠ j ∧ j ∉ ws ∧ r[j]? = some (some b)) := fun j b hb => by
    rcases set_some hb with ⟨h1, h2, _⟩ | ⟨ne, hb⟩
    · exact .inl ⟨h1, by cases h2; rfl⟩
    · exact .inr ⟨ne, (wipeR_some hb).2, (wipeR_some hb).1⟩
  have kk : ∀ j, i ≠ j → j ∉ ws → kd (setVs G (i :: ws)) j = kd G j := fun j h1 h2 => by
    rw [kd_setVs, if_neg]
    simp [Ne.symm h1, h2]
  refine ⟨S0, H0, S', _, ⟨fw, by rw [List.length_set, wipeR_len, ok.len], fun j b hb => ?_, fun j l b b' q hj hk kj kl sj sk => ?_, [], .nil fun j b _ => hn j⟩, p⟩
  · rcases get j b hb with ⟨rfl, rfl⟩ | ⟨ne, nw, hb⟩
    · exact ⟨_, s3, by rw [kd_setVs, if_pos (by simp)]; exact hrp⟩
    · obtain ⟨u, h1, h2⟩ := ok.slot j b hb
      refine ⟨u, h1, ?_⟩
      rw [kk j ne nw]
      cases kj : kd G j with
      | v => rw [kj] at h2; exact Rp.mono eS h2
      | b => rw [kj] at h2; exact RpB.mono h2 eS Ex.refl
      | s => rw [kj] at h2; exact h2
      | w => rw [kj] at h2; exact h2
      | x a C dd =>
        rw [kj] at h2
        obtain ⟨y1, n, ns, ds, fs, y2, y3, y4, y5, y6⟩ := h2
        exact ⟨y1, n, ns, ds, fs, y2, y3, eS _ _ y4, y5, y6.mono eS⟩
      | o =>
        rw [kj] at h2
        obtain ⟨q, hq, z1, z2, z3, z4, z5⟩ := h2
        subst z1
        exact ⟨q, hq, rfl, z2, by rw [hout q (so.own j b q hb kj h1)]; exact z3, z4, z5.mono eS⟩
  · rcases get j b hj with ⟨rfl, rfl⟩ | ⟨nj, wj, hj⟩
    · rw [kd_setVs, if_pos (by simp)] at kj; cases kj
    · rcases get l b' hk with ⟨rfl, rfl⟩ | ⟨nl, wl, hk⟩
      · rw [kd_setVs, if_pos (by simp)] at kl; cases kl
      · rw [kk j nj wj] at kj
        rw [kk l nl wl] at kl
        exact ok.sep j l b b' q hj hk kj kl sj sk
/-- a slot that holds nothing yet is told to be one for own lists -/
def nonF (i : Nat) : Rho → SR := fun r => match r[i]? with
  | some (some _) => .bad
  | _ => .nx r
theorem ds_kw (i : Nat) {sts : List Stmt} {F : Rho → SR} (hk : kd G i = .v) (h : PSs X sts (sD c L (G.set i .w) G' F)) : PSs X sts (sD c L G G' (seqF (nonF i) F)) := pss_imp h fun E σ H ⟨S0, H0, S, r, ok, p⟩ => by
  have hno : ∀ d, r[i]? ≠ some (some d) := fun d hd => by
    unfold seqF nonF at p
    rw [hd] at p
    exact p.elim
  have p : PostS c S0 H0 L G' (F r) E := by
    have e : nonF i r = .nx r := by
      unfold nonF
      split
      · rename_i d hd; exact absurd hd (hno d)
      · rfl
    unfold seqF at p
    rw [e] at p
    exact p
  have nj : ∀ {j d}, r[j]? = some (some d) → i ≠ j := fun {j d} hj z => hno d (z ▸ hj)
  obtain ⟨A, so⟩ := ok.sto
  refine ⟨S0, H0, S, r, ⟨ok.fwd, ok.len, fun j b hb => ?_, fun j l b b' q hj hk kj kl sj sk => ?_, A, so.sub (fun a ha => (so.out a ha).1) (fun _ _ => rfl) Ex.refl (fun j b q hj kj sj => ?_) fun j b kj hj => ?_⟩, p⟩
  · obtain ⟨u, h1, h2⟩ := ok.slot j b hb
    exact ⟨u, h1, by rw [kd_set_ne (nj hb)]; exact h2⟩
  · rw [kd_set_ne (nj hj)] at kj
    rw [kd_set_ne (nj hk)] at kl
    exact ok.sep j l b b' q hj hk kj kl sj sk
  · rw [kd_set_ne (nj hj)] at kj
    exact so.own j b q hj kj sj
  · rw [kd_set_ne (nj hj)]
    exact ⟨rfl, hj, rfl⟩
/-! ### a comprehension of new lists -/
def rowsOf : List D → Option (List (List D))
  | [] => some []
  | .lst row :: ds => match rowsOf ds with
    | some M => some (row :: M)
    | none => none
  | _ => none
def ownRow (n : Nat) : List D := (List.range n).map D.own
theorem rowsOf_get : ∀ {ds : List D} {M : List (List D)}, rowsOf ds = some M → M.length = ds.length ∧ ∀ (n : Nat) row, M[n]? = some row → ds[n]? = some (.lst row)
  | [], M, h => by cases h; exact ⟨rfl, fun n row hn => by simp at hn⟩
  | d :: ds, M, h => by
    unfold rowsOf at h
    cases d with
    | lst row =>
      dsimp only at h
      split at h
      · rename_i M1 h1
        cases h
        have := rowsOf_get h1
        refine ⟨by simp [this.1], fun n row' hn => ?_⟩
        cases n with
        | zero => simp at hn ⊢; exact hn
        | succ n => simp at hn ⊢; exact this.2 n row' hn
      · cases h
    | _ => cases h
noncomputable def dLcG (its : Rho → Res (List D)) (t : D → Rho → Res Rho) (tt : Rho → Res Bool) (fe : Rho → Res D) (vs : List Nat) : Rho → Res D := fun r => (its r).bind fun ds => guard (ds.length ≤ sizeLine) (match lcLoop t tt fe (wipeR r vs) ds with
  | .ok xs => match rowsOf xs with
    | some M => .ok (.st M.length (M ++ [ownRow M.length]))
    | none => .bad
  | _ => .bad)
theorem lcG_rd {its : Rho → Res (List D)} {t : D → Rho → Res Rho} {tt : Rho → Res Bool} {fe : Rho → Res D} {vs : List Nat} : ∀ σ H Q, rd c G (dLcG its t tt fe vs) (mG c) σ H Q →
    tLc (iD c G its) (gD c.calm G G' vs t) (tT c.calm G' tt) (tO c.calm G' fe) vs σ H Q := fun σ H Q ⟨S0, H0, S, r, ok, p⟩ => by
  refine ⟨S0, H0, S, r, ok, p.unbind.imp fun ds S1 H1 w1 p1 J gv Dl hD => ?_⟩
  obtain ⟨hl, p1⟩ := p1.gd
  obtain ⟨Gd, Y, wk, hG, hY⟩ := gv
  have ok1 := ok.go w1
  split at p1
  · rename_i res hres
    split at p1
    · rename_i M hM
      have okw := ok1.wiped vs
      have nS : S1 Dl = none := ok1.ex.nn hD
      refine lc_it wk (fun i H' => ∃ S' As accD rest, Fwd S1 H1 S' H' ∧ S' Dl = none ∧ H' Dl = some (.lst (As.map V.ref)) ∧ As.Nodup ∧ (∀ a ∈ As, H1 a = none ∧ S' a = none ∧ a ≠ Dl) ∧ As.length = accD.length ∧
          (∀ (n : Nat) d, accD[n]? = some d → ∃ a ho, As[n]? = some a ∧ H' a = some ho ∧ RpO c.K c.cm S' ho d) ∧ lcLoop t tt fe (wipeR r vs) (ds.drop i) = .ok rest ∧ accD ++ rest = res ∧ accD.length ≤ i)
        ⟨S1, [], [], res, Fwd.heap ok1.ex hD, nS, upd_same, List.nodup_nil, fun a ha => (by cases ha), rfl, fun n d hn => by simp at hn, by rw [List.drop_zero]; exact hres, rfl, Nat.le_refl _⟩ ?_ ?_ ?_
      · rintro i H' _ ⟨S', As, accD, rest, fw, _⟩
        exact hG S' H' fw.s fw.sub (ok1.fwd.h.trans fw.h)
      · rintro i x H' H2 hi ⟨S', As, accD, rest, fw, n1, h1, nd, fr, ll, r1, hr, ha, hn⟩ y
        obtain ⟨S2, d, fw2, hd, hx⟩ := hY i S' H' x H2 hi fw.s fw.sub y
        have hdrop : ds.drop i = d :: ds.drop (i + 1) := by
          rw [List.drop_eq_getElem_cons hi]
          rw [List.getElem?_eq_getElem hi] at hd
          cases hd; rfl
        rw [hdrop] at hr
        unfold lcLoop at hr
        refine ⟨S0, H0, S2, wipeR r vs, d, okw.go (fw.trans fw2), hx, ?_⟩
        cases ht : t d (wipeR r vs) with
        | err _ _ _ => rw [ht] at hr; cases hr
        | bad => rw [ht] at hr; cases hr
        | ok r2 =>
          rw [ht] at hr
          dsimp only at hr
          intro σ3 z3 ok3
          have hz : L2.wipe (L2.wipe σ vs) vs = L2.wipe σ vs := by
            apply List.ext_getElem?
            intro k
            rw [wipe_get, wipe_get]
            split
            · cases σ[k]? <;> rfl
            · rfl
          have keepN : ∀ S4 H4, Fwd S' H' S4 H4 → ∀ q o, H' q = some o → S' q = none → S4 q = none := fun S4 H4 f4 q o hq hs => by
            cases z : S4 q with
            | none => rfl
            | some u => rw [f4.new q u z hs] at hq; cases hq
          have keepA : ∀ S4 H4, Fwd S' H' S4 H4 → ∀ a ∈ As, H1 a = none ∧ S4 a = none ∧ a ≠ Dl := fun S4 H4 f4 a ha' => by
            obtain ⟨g1, g2, g3⟩ := fr a ha'
            obtain ⟨n, hn'⟩ := List.mem_iff_getElem?.mp ha'
            have hlt : n < accD.length := by rw [← ll]; exact (List.getElem?_eq_some_iff.mp hn').1
            obtain ⟨a', ho, z1, z2, _⟩ := r1 n accD[n] (List.getElem?_eq_getElem hlt)
            rw [hn'] at z1; cases z1
            exact ⟨g1, keepN S4 H4 f4 a ho z2 g2, g3⟩
          have keepR : ∀ S4 H4, Fwd S' H' S4 H4 → ∀ (n : Nat) d, accD[n]? = some d → ∃ a ho, As[n]? = some a ∧ H4 a = some ho ∧ RpO c.K c.cm S4 ho d := fun S4 H4 f4 n d hn => by
            obtain ⟨a, ho, z1, z2, z3⟩ := r1 n d hn
            exact ⟨a, ho, z1, f4.h _ _ z2, z3.mono f4.s⟩
          refine ⟨z3.trans hz, S0, H0, S2, r2, ok3, ?_⟩
          cases htt : tt r2 with
          | err _ _ _ => rw [htt] at hr; cases hr
          | bad => rw [htt] at hr; cases hr
          | ok b =>
            rw [htt] at hr
            intro S4 H4 w4 b' hb
            cases hb
            have f4 := fw2.trans w4
            cases b with
            | false =>
              dsimp only at hr
              rw [if_neg (by decide)]
              exact ⟨S4, As, accD, rest, fw.trans f4, keepN S4 H4 f4 Dl _ h1 n1, f4.h _ _ h1, nd, keepA S4 H4 f4, ll, keepR S4 H4 f4, hr, ha, Nat.le_succ_of_le hn⟩
            | true =>
              dsimp only at hr
              rw [if_pos rfl]
              refine ⟨S0, H0, S4, r2, ok3.go w4, ?_⟩
              cases hfe : fe r2 with
              | err _ _ _ => rw [hfe] at hr; cases hr
              | bad => rw [hfe] at hr; cases hr
              | ok x2 =>
                rw [hfe] at hr
                dsimp only at hr
                cases hlc : lcLoop t tt fe (wipeR r vs) (ds.drop (i + 1)) with
                | err _ _ _ => rw [hlc] at hr; cases hr
                | bad => rw [hlc] at hr; cases hr
                | ok xs2 =>
                  rw [hlc] at hr
                  cases hr
                  intro S5 H5 w5 y5 hy5
                  obtain ⟨q, ho, rfl, q1, q2, q3, q4⟩ := hy5
                  have f5 := f4.trans w5
                  have nqD : q ≠ Dl := fun z => by subst z; rw [f4.h _ _ h1] at q1; cases q1
                  have nqA : q ∉ As := fun z => by
                    obtain ⟨n, hn'⟩ := List.mem_iff_getElem?.mp z
                    have hlt : n < accD.length := by rw [← ll]; exact (List.getElem?_eq_some_iff.mp hn').1
                    obtain ⟨a', ho', z1, z2, _⟩ := keepR S4 H4 f4 n accD[n] (List.getElem?_eq_getElem hlt)
                    rw [hn'] at z1; cases z1
                    rw [q1] at z2; cases z2
                  have n5 := keepN S5 H5 f5 Dl _ h1 n1
                  refine ⟨As.map V.ref, f5.h _ _ h1, ?_, S5, As ++ [q], accD ++ [x2], xs2, (fw.trans f5).put hD n5, n5, ?_, ?_, ?_, ?_, ?_, rfl, ?_, ?_⟩
                  · rw [List.length_map, ll]; omega
                  · rw [upd_same]; simp
                  · rw [List.nodup_append]
                    exact ⟨nd, by simp, fun a ha' b hb' z => by simp at hb'; subst hb'; subst z; exact nqA ha'⟩
                  · intro a ha'
                    rcases List.mem_append.mp ha' with ha' | ha'
                    · exact keepA S5 H5 f5 a ha'
                    · simp at ha'; subst ha'
                      exact ⟨(fw.trans f4).h.nn q1, q2, nqD⟩
                  · simp [ll]
                  · intro n d' hn'
                    rw [List.getElem?_append] at hn'
                    split at hn'
                    · rename_i hlt
                      obtain ⟨a, ho', z1, z2, z3⟩ := keepR S5 H5 f5 n d' hn'
                      have hA := (fr a (List.mem_of_getElem? z1)).2.2
                      exact ⟨a, ho', by rw [List.getElem?_append_left (by rw [ll]; exact hlt)]; exact z1, by rw [upd_ne hA]; exact z2, z3⟩
                    · rename_i hge
                      have hn0 : n - accD.length = 0 := by
                        have := (List.getElem?_eq_some_iff.mp hn').1
                        simp at this; omega
                      rw [hn0] at hn'
                      cases hn'
                      exact ⟨q, ho, by rw [List.getElem?_append_right (by rw [ll]; omega), ll, hn0]; rfl, by rw [upd_ne nqD]; exact q3, q4⟩
                  · rw [← ha, List.append_assoc]; rfl
                  · simp; omega
      · rintro H' ⟨S', As, accD, rest, fw, n1, h1, nd, fr, ll, r1, hr, ha, hn⟩
        rw [List.drop_length] at hr
        cases hr
        rw [List.append_nil] at ha
        subst ha
        obtain ⟨m1, m2⟩ := rowsOf_get hM
        have hlen : As.length = M.length := by rw [m1]; exact ll
        refine p1 S' H' fw _ ⟨M.length, M ++ [ownRow M.length], As ++ [Dl], rfl, ?_, by simp [hlen], ⟨Dl, ?_, rfl⟩, ?_, ?_⟩
        · rw [List.nodup_append]
          exact ⟨nd, by simp, fun a ha' b hb' z => by simp at hb'; subst hb'; subst z; exact (fr a ha').2.2 rfl⟩
        · rw [List.getElem?_append_right (by omega), hlen, Nat.sub_self]; rfl
        · intro a ha'
          rcases List.mem_append.mp ha' with ha' | ha'
          · exact ⟨w1.h.nn (fr a ha').1, (fr a ha').2.1⟩
          · simp at ha'; subst ha'
            exact ⟨w1.h.nn hD, n1⟩
        · intro n row hn'
          rw [List.getElem?_append] at hn'
          split at hn'
          · rename_i hlt
            obtain ⟨a, ho, z1, z2, z3⟩ := r1 n _ (m2 n row hn')
            cases z3 with
            | lst z3 =>
              refine ⟨a, _, by rw [List.getElem?_append_left (by rw [hlen]; exact hlt)]; exact z1, z2, z3.length, fun i v d hv hd => ?_⟩
              obtain ⟨d', e1, e2⟩ := z3.getV hv
              rw [hd] at e1; cases e1
              exact .inl e2
          · rename_i hge
            have hn0 : n - M.length = 0 := by
              have := (List.getElem?_eq_some_iff.mp hn').1
              simp at this; omega
            rw [hn0] at hn'
            cases hn'
            refine ⟨Dl, As.map V.ref, by rw [List.getElem?_append_right (by omega), hlen, hn0]; rfl, h1, by simp [ownRow, hlen], fun i v d hv hd => ?_⟩
            rw [List.getElem?_map] at hv
            cases hAi : As[i]? with
            | none => rw [hAi] at hv; cases hv
            | some a =>
              rw [hAi] at hv; cases hv
              have hil := (List.getElem?_eq_some_iff.mp hAi).1
              unfold ownRow at hd
              rw [List.getElem?_map, List.getElem?_range (by omega)] at hd
              cases hd
              exact .inr ⟨i, a, rfl, by rw [List.getElem?_append_left hil]; exact hAi, rfl⟩
    · exact p1.elim
  · exact p1.elim
/-- name = [..], of new lists -/
theorem ds_setSLc (i : Nat) {y : Str} {py : Pos} {elt tg iter : Expr} {ifs : List Expr} {scope : Scope} {own : List (Str × Nat)} {pos spos : Pos} {its : Rho → Res (List D)} {t : D → Rho → Res Rho} {tt : Rho → Res Bool} {fe : Rho → Res D} (hgk : Gok c G) (hG : i < G.length) (hn : noSW (G.set i .v)) (hc : X.calm = true) (hN : X.N.Nodup) (hy : X.N[i]? = some y) (hyl : X.env.scope.names.lookup y = some .local)
    (hsw : swapsWith (.ListComp elt [⟨tg, iter, ifs, 0⟩] scope pos) (some (.Name y py)) spos.line X.env = pure true) (hi : PI X tg iter (iD c G its)) (ok : BlkOk X.N X.env.scope scope own)
    (hg : ∀ (s : Shared) (H : Hp) (C : Addr) (cl : List (Str × Addr)) (fp : List Addr), PG (X.blk s H scope (compEnvC scope cl C X.env) fp) tg (gD c.calm G G' (own.map (·.2)) t)) (ht : ∀ (s : Shared) (H : Hp) (C : Addr) (cl : List (Str × Addr)) (fp : List Addr), PTs (X.blk s H scope (compEnvC scope cl C X.env) fp) ifs (tT c.calm G' tt))
    (he : ∀ (s : Shared) (H : Hp) (C : Addr) (cl : List (Str × Addr)) (fp : List Addr), PE (X.blk s H scope (compEnvC scope cl C X.env) fp) elt (tO c.calm G' fe)) (hs : ∀ x, foldedSetIterable iter X.env x = pure x := by intro _; rfl) :
    PS X (.Assign [.Name y py] (.ListComp elt [⟨tg, iter, ifs, 0⟩] scope pos) spos) (sD c L G (G.set i .s) (setF i (dLcG its t tt fe (own.map (·.2))))) :=
  ps_imp (ps_setLc hc hN hy hyl hsw hi ok hg ht he hs) fun E σ H ⟨S0, H0, S, r, ok, p⟩ => lcG_rd σ H _ (st_seq hgk ok p fun d v S1 H1 w1 o1 m1 p1 => p1 _ S1 H1 (ok.setS w1 i hG hn m1))
end
end Dx

end S_DxU
section S_DxV
set_option Elab.async false
set_option linter.all false
set_option maxRecDepth 100000
set_option maxHeartbeats 2000000
/-! Dx, part V: enumerate of a list, of a tuple. -/
namespace Dx
open PySem L2
/-! ### at the library's level: a tuple -/
section
variable {prog : Program} {w : World} {A : Around} {E : Value → Shared → Prop} {s : Shared}
theorem drawsT (hh : A.handled = none) (it l : Addr) (hne : l ≠ it) (its : Array Value) : Draws prog w A it [it, l] its.size (fun i v => its[i]? = some v) (fun i h => h.IsTupleIter it l i ∧ h.IsTuple l its) where
  live := fun _ _ st => let ⟨o, ho, _⟩ := st.1; ⟨o, ho⟩
  frame := fun _ _ _ st hk => ⟨st.1.at fun o z => hk it (by simp) o z, let ⟨o, ho, r⟩ := st.2; ⟨o, hk l (by simp) o ho, r⟩⟩
  item := fun i s Q E hi st hQ => RZ.nextOf_tuple_item st.1 st.2 (x := its[i]) (by simp [hi]) fun h' h1 h2 =>
    hQ _ h' s.toks (by simp [hi]) ⟨h1, st.2.extBut h2.extBut hne⟩ h2
  done := fun s Q E st hE => RZ.nextOf_tuple_end hh st.1 st.2 (by simp) hE
theorem meets_enT (l : Addr) (its : Array Value) (n : Nat) (dct : Option Addr) (sl : Array (Option Value)) :
    Meets (Builtin.«enumerate.__new__» ⟨[.type "enumerate", .ref l], []⟩) (fun _ R s => s.heap.get? l = some { cls := .type "tuple", dict := dct, data := .seq its n, slots := sl } ∧
      R (.ok (.ret (.ref (s.heap.push { cls := .type "tuple_iterator", data := .fields #[.ref l, .int 0 0] }).objs.size)))
        { s with heap := (s.heap.push { cls := .type "tuple_iterator", data := .fields #[.ref l, .int 0 0] }).push { cls := .type "enumerate", data := .fields #[.none, .bool false, .ref s.heap.objs.size, rawInt 0, .none, .none] } }) :=
  .of_wp fun prog w A R s h => by
    obtain ⟨hp, g, d, tk, os⟩ := s; obtain ⟨hl, h⟩ := h
    have hsub := sub_enumerate
    have hT : Heap.IsTuple (Shared.heap ⟨hp, g, d, tk, os⟩) l its := ⟨_, hl, rfl, n, rfl⟩
    wp_walk using AutoSeq1.wpAny_loadPart' hl
    refine wpAny_stack_any fun st => wpAny_pure ?_
    split
    · rename_i c _ _ _ _ _
      cases (c == Value.type "enumerate")
      · wp_walk using AutoSeq1.wpAny_loadPart' hl, wpAny_pyIter_tuple hT
        exact ⟨_, rfl, h⟩
      · wp_walk using AutoSeq1.wpAny_loadPart' hl, wpAny_pyIter_tuple hT
        exact ⟨_, rfl, h⟩
    · wp_walk using AutoSeq1.wpAny_loadPart' hl, wpAny_pyIter_tuple hT
      exact ⟨_, rfl, h⟩
theorem call_enT {l : Addr} {its : Array Value} {Q : Value → Shared → Prop} (hL : s.heap.IsTuple l its)
    (h : ∀ h', IsEnum h' (s.heap.objs.size + 1) s.heap.objs.size 0 .none → h'.IsTupleIter s.heap.objs.size l 0 →
      (∀ b o, s.heap.get? b = some o → h'.get? b = some o) → Q (.ref (s.heap.objs.size + 1)) { s with heap := h' }) :
    wpAny (model prog w) A (call (.type "enumerate") [.ref l]) Q E s := by
  obtain ⟨⟨c, dct, dt, sl⟩, hl, hc, n, hd⟩ := hL
  replace hc : c = .type "tuple" := hc
  replace hd : dt = .seq its n := hd
  subst hc hd
  refine callType_new F.called_enumerate (by decide) (F.typeCall_enumerate_1 _) (F.newCall_enumerate_1 _) (fun obj => F.args_object_init_2 obj _) F.entry_enumerate_new (meets_enT l its n dct sl) ⟨hl, ?_⟩
  have hz : (s.heap.push { cls := .type "tuple_iterator", data := .fields #[.ref l, .int 0 0] }).objs.size = s.heap.objs.size + 1 := Heap.size_push ..
  show _ ∧ _
  rw [hz]
  have he : IsEnum ((s.heap.push { cls := .type "tuple_iterator", data := .fields #[.ref l, .int 0 0] }).push
      { cls := .type "enumerate", data := .fields #[.none, .bool false, .ref s.heap.objs.size, rawInt 0, .none, .none] }) (s.heap.objs.size + 1) s.heap.objs.size 0 .none := by
    have := Heap.get?_push_size (s.heap.push { cls := .type "tuple_iterator", data := .fields #[.ref l, .int 0 0] })
      (o := { cls := .type "enumerate", data := .fields #[.none, .bool false, .ref s.heap.objs.size, rawInt 0, .none, .none] }) rfl
    rw [hz] at this; exact this
  exact ⟨⟨_, he, rfl⟩, h _ he ⟨_, Heap.get?_push_of_some _ (Heap.get?_push_size _ rfl), rfl, rfl⟩ fun b o x => Heap.get?_push_of_some _ (Heap.get?_push_of_some _ x)⟩
end
/-! ### the walk -/
def IteT (K : PySem.W.Frag) (a : Addr) : It :=
  ⟨fun i H => ∃ (xs : List V) (x : V), SqT K H a xs ∧ xs[i]? = some x, fun i H v H' => ∃ T x, v = .ref T ∧ H T = none ∧ H' = upd H T (.tup [.int (i : Nat), x]) ∧ ∀ xs, SqT K H a xs → xs[i]? = some x, fun i H => ∃ xs : List V, SqT K H a xs ∧ xs.length ≤ i⟩
theorem turn_enT {P : Program} {w : World} {K : PySem.W.Frag} {elts : List Expr} {kk : Nat} {tpos : Pos} (a e it : Addr) (hai : a ≠ it) (hae : a ≠ e) :
    Turn P w K (.Tuple elts kk tpos) (IteT K a) [e, it] e (fun i h => (∃ old, IsEnum h e it ((i : Nat) : Int) old) ∧ h.IsTupleIter it a i ∧ e ≠ it) where
  mem := by simp
  obj := fun i h st b hb => by
    obtain ⟨⟨old, he⟩, ⟨o, ho, hc, hd⟩, _⟩ := st
    have e' : b = e ∨ b = it := by simpa using hb
    rcases e' with z | z
    · rw [z]; exact ⟨_, he, fun v q => nomatch q⟩
    · rw [z]; exact ⟨o, ho, fun v q => by rw [hd] at q; cases q⟩
  keep := fun i h h' st k => let ⟨⟨old, he⟩, hi, hne⟩ := st; ⟨⟨old, k e (by simp) _ he⟩, hi.at fun o q => k it (by simp) o q, hne⟩
  item := by
    intro X hP hw hK hc i pins s σ H E I hf st hg
    subst hP hw hK
    obtain ⟨⟨old, he⟩, hit, hne⟩ := st
    obtain ⟨xs, x, hq, hx⟩ := hg
    obtain ⟨its, rv, p, hz⟩ := I.tuple hq
    obtain ⟨u, hu, ru⟩ := rv.get hx
    have hel : e < s.heap.objs.size := Heap.lt_size he
    have hil : it < s.heap.objs.size := by obtain ⟨_, q, _⟩ := hit; exact Heap.lt_size q
    have hiu : its.toArray[i]? = some u := by simpa using hu
    have dr : Draws X.prog X.w X.A.in1 it [it, a] its.toArray.size (fun i v => its.toArray[i]? = some v) (fun i h => h.IsTupleIter it a i ∧ h.IsTuple a its.toArray) := drawsT (show X.A.in1.handled = none from I.ok.hd hc) it a hai its.toArray
    have hea : e ∉ [it, a] := by simp [hne, Ne.symm hae]
    refine wpAny_pyNext_enum_itemD dr he ⟨hit, p⟩ (Array.getElem?_eq_some_iff.mp hiu).1 hne hea fun u' h' tk hu' ho hst hT hsz hk => ?_
    rw [hiu] at hu'; cases hu'
    refine ⟨_, rfl, wpAny_letOwnedTupleGo_enum (s := { s with heap := h', toks := tk + 1 }) ho fun h'' he' sb => ?_⟩
    have hT2 : h''.get? s.heap.objs.size = some { cls := .type "tuple", data := .seq #[.int i tk, u] } := (sb.2 _ (Nat.ne_of_gt hel)).trans hT
    have new : ObjOk X.prog X.w (upd H s.heap.objs.size (.tup [.int (i : Nat), x])) h'' s.heap.objs.size (.tup [.int (i : Nat), x]) :=
      ⟨by show 2 ≤ sizeLine; decide, [.int i tk, u], .cons ⟨_, rfl⟩ (.cons ru .nil), ⟨_, hT2, rfl, _, rfl⟩⟩
    have I1 : Inv X pins σ (upd H s.heap.objs.size (.tup [.int (i : Nat), x])) { s with heap := h'', toks := tk + 1 } :=
      I.turnedNew (ch := [e, it]) (fun b ob hb q => (sb.2 b (fun z => hb (by simp [z]))).trans (hk b ob (fun z => hb (by simp [z])) (fun z => hb (by simp [z])) q)) hf (Nat.le_refl _) new
    refine ⟨.ref s.heap.objs.size, _, I1, rfl, ⟨_, x, rfl, I.hok.fresh (Nat.le_refl _), rfl, fun ys hy => by rw [I.tuple_inj hy hq]; exact hx⟩, ⟨⟨u, ?_⟩, hst.1.at fun o q => (sb.2 it (Ne.symm hne)).trans q, hne⟩, fun b hb => ?_⟩
    · have e1 : ((i + 1 : Nat) : Int) = (i : Int) + 1 := by omega
      rw [e1]; exact he'
    · have hb' : b < s.heap.objs.size := by
        have e' : b = e ∨ b = it := by simpa using hb
        rcases e' with z | z
        · rw [z]; exact hel
        · rw [z]; exact hil
      rw [upd_ne (Nat.ne_of_lt hb')]
      exact (hf b hb).1
  done := by
    intro X hP hw hK hc i pins s σ H E I hf st hg
    subst hP hw hK
    obtain ⟨⟨old, he⟩, hit, hne⟩ := st
    obtain ⟨xs, hq, hx⟩ := hg
    obtain ⟨its, rv, p, hz⟩ := I.tuple hq
    obtain ⟨f0, f1, f2, f3, f4, f5⟩ := hf it (by simp)
    have hl := rv.length
    have dr : Draws X.prog X.w X.A.in1 it [it, a] i (fun _ _ => False) (fun j h => j = i ∧ h.IsTupleIter it a i ∧ h.IsTuple a its.toArray) :=
      { live := fun _ _ st => let ⟨o, ho, _⟩ := st.2.1; ⟨o, ho⟩
        frame := fun _ _ _ st hk => ⟨st.1, st.2.1.at fun o z => hk it (by simp) o z, let ⟨o, ho, r⟩ := st.2.2; ⟨o, hk a (by simp) o ho, r⟩⟩
        item := fun j s Q E hi st hQ => absurd st.1 (Nat.ne_of_lt hi)
        done := fun s Q E st hE => RZ.nextOf_tuple_end (show X.A.in1.handled = none from I.ok.hd hc) st.2.1 st.2.2 (by simp; omega) hE }
    exact wpAny_pyNext_enum_endD dr he ⟨rfl, hit, p⟩ fun h' eb => ⟨rfl, I.turned (t' := s.toks) (fun b o hb q => eb b o hb q) f0 f1 f3 f4 f5⟩
  self := fun A i s Q E st h => let ⟨⟨_, he⟩, _⟩ := st; wpAny_pyIter_enum he h
def iEnT (K : PySem.W.Frag) (ta : TA) : TI := fun σ H R => ta σ H fun vs H1 => ∃ a xs, vs = [.ref a] ∧ SqT K H1 a xs ∧ R (IteT K a) H1
theorem pi_enT {X : Cx} {e : Expr} {ta : TA} {p pos tpos : Pos} {elts : List Expr} {kk : Nat} (hg : Gl X "enumerate") (hm : X.mg "enumerate" = none) (ha : PA X [e] ta) (hs : starEach [e] X.env = [(false, eval e X.env)] := by rfl) :
    PI X (.Tuple elts kk tpos) (.Call (.Name "enumerate" p) [e] [] pos) (iEnT X.K ta) := by
  refine ⟨fun pins s σ H R I h => ?_⟩
  refine PyProof.Rows.Call_ (ld_blt I hg hm PyProof.Rows.boot_enumerate (PyProof.Rows.callWith_type1 (thn (ha.run pos pins s σ H _ I h) fun us s1 ⟨vs, H1, I1, r1, q1⟩ => ?_) hs rfl))
  obtain ⟨a, xs, ex, hq, q⟩ := q1
  subst ex
  cases r1 with
  | cons r rr =>
    cases rr
    cases r
    obtain ⟨its, rv, p', hz⟩ := I1.tuple hq
    have hal : a < s1.heap.objs.size := by obtain ⟨o, ho, _⟩ := p'; exact Heap.lt_size ho
    refine call_enT p' fun h' he hit hk => wpAny_pyIter_enum he ?_
    have I2 : Inv X pins σ H1 { s1 with heap := h' } := I1.kept (t' := s1.toks) hk
    refine ⟨s1.heap.objs.size + 1, [s1.heap.objs.size + 1, s1.heap.objs.size], _, _, H1, rfl, I2, turn_enT a (s1.heap.objs.size + 1) s1.heap.objs.size (Nat.ne_of_lt hal) (Nat.ne_of_lt (Nat.lt_succ_of_lt hal)), ⟨⟨.none, he⟩, hit, Nat.succ_ne_self _⟩, fun b hb => ?_, q⟩
    have e' : b = s1.heap.objs.size + 1 ∨ b = s1.heap.objs.size := by simpa using hb
    have hle : s1.heap.objs.size ≤ b := by
      rcases e' with z | z
      · rw [z]; exact Nat.le_add_right _ _
      · rw [z]; exact Nat.le_refl _
    exact I1.fpOk hle (I1.hok.fresh hle)
theorem walk_enT {K : PySem.W.Frag} {a : Addr} {xs : List V} : Walk (IteT K a) xs.length (fun H => SqT K H a xs) (YPair (fun i => some (.int (i : Nat))) (fun i => xs[i]?)) := by
  refine ⟨fun i _ hi q => ⟨xs, xs[i], q, by simp [hi]⟩, fun _ q => ⟨xs, q, Nat.le_refl _⟩, fun i H v H' _ q y => ?_⟩
  obtain ⟨T, x, h1, h2, h3, h4⟩ := y
  exact ⟨T, .int (i : Nat), x, h1, h2, h3, rfl, h4 xs q⟩
/-! ### by data -/
/-- each item with its number -/
def numd : Nat → List D → List D
  | _, [] => []
  | n, d :: ds => .tup [.int (n : Int), d] :: numd (n + 1) ds
theorem numd_len : ∀ (ds : List D) (n : Nat), (numd n ds).length = ds.length
  | [], _ => rfl
  | d :: ds, n => by rw [numd, List.length_cons, List.length_cons, numd_len ds (n + 1)]
theorem numd_get : ∀ (ds : List D) (n i : Nat) (d : D), ds[i]? = some d → (numd n ds)[i]? = some (.tup [.int ((n + i : Nat) : Int), d])
  | [], _, _, _, h => by simp at h
  | d :: ds, n, 0, e, h => by simp at h; subst h; simp [numd]
  | d :: ds, n, i + 1, e, h => by
    have := numd_get ds (n + 1) i e (by simpa using h)
    rw [numd, List.getElem?_cons_succ, this, show n + 1 + i = n + (i + 1) by omega]
def enumD (d : D) : Res (List D) := (items d).bind fun ds => .ok (numd 0 ds)
section
variable {X : Cx} {c : Cf} {G : List Ow} {f : Rho → Res D} {e : Expr} {pos : Pos}
theorem YOk.num {S : Hp} {xs : List V} {ds : List D} (rr : RpA c.K c.cm S xs ds) : YOk c S (numd 0 ds) (YPair (fun i => some (.int (i : Nat))) (fun i => xs[i]?)) := by
  intro i S1 H1 x H2 hi e1 e2 y
  obtain ⟨T, a, b, rfl, h1, rfl, h2, h3⟩ := y
  cases h2
  obtain ⟨d, g1, g2⟩ := rr.getV h3
  refine ⟨upd S1 T (.tup [.int (i : Nat), b]), .tup [.int ((0 + i : Nat) : Int), d], Fwd.both e2 h1, numd_get ds 0 i d g1, ?_⟩
  rw [Nat.zero_add]
  have ex : Ex S1 (upd S1 T (.tup [.int (i : Nat), b])) := Ex.new (e2.nn h1)
  exact .tup (.inl (.inl upd_same)) (.cons (.int _) (.cons ((g2.mono e1).mono ex) .nil))
def itemsF (d : D) : Res (List D) := match d with
  | .lst ds => .ok ds
  | .fz ds => .ok ds
  | _ => .bad
def enumL (d : D) : Res (List D) := (itemsF d).bind fun ds => .ok (numd 0 ds)
def enumT (d : D) : Res (List D) := (itemsT d).bind fun ds => .ok (numd 0 ds)
/-- enumerate(list): the list a value -/
theorem di_enumL {p tpos : Pos} {elts : List Expr} {kk : Nat} (hm : X.mg "enumerate" = none) (hg : Gl X "enumerate") (he : PE X e (tV c G f)) (hK : c.K = X.K := by rfl) (hs : starEach [e] X.env = (false, eval e X.env) :: starEach [] X.env := by rfl) :
    PI X (.Tuple elts kk tpos) (.Call (.Name "enumerate" p) [e] [] pos) (iD c G (dIt enumL f)) :=
  pi_imp (pi_enum hg hm (pa_cons he pa_nil hs) hs) fun σ H R ⟨S0, H0, S, r, ok, p⟩ => rd_seq ok p fun d v S1 H1 w1 o1 m1 p1 => by
    rw [← hK]
    have fin : ∀ q xs ds, SqL c.K S1 q xs → RpA c.K c.cm S1 xs ds → v = .ref q → itemsF d = .ok ds → ∃ a xs, [v] = [.ref a] ∧ SqL c.K H1 a xs ∧ R (Ite c.K a) H1 := fun q xs ds a1 a2 hv hd => by
      subst hv
      unfold enumL at p1
      rw [hd] at p1
      refine ⟨q, xs, rfl, o1.ex.l a1, PostG.go p1 o1.ex _ ⟨_, _, ?_, fun S'' H'' e1 e2 _ => e2.l (e1.l a1), YOk.num a2⟩⟩
      rw [numd_len, ← a2.length]
      exact walk_enum (K := c.K) (a := q) (xs := xs)
    cases d with
    | lst ds => cases m1 with | lst a1 a2 => exact fin _ _ ds (.inl (.inl a1)) a2 rfl rfl
    | fz ds => cases m1 with | fz a1 a2 => exact fin _ _ ds a1 a2 rfl rfl
    | _ => exact p1.elim
/-- enumerate(tuple) -/
theorem di_enumT {p tpos : Pos} {elts : List Expr} {kk : Nat} (hm : X.mg "enumerate" = none) (hg : Gl X "enumerate") (he : PE X e (tV c G f)) (hK : c.K = X.K := by rfl) (hs : starEach [e] X.env = (false, eval e X.env) :: starEach [] X.env := by rfl) :
    PI X (.Tuple elts kk tpos) (.Call (.Name "enumerate" p) [e] [] pos) (iD c G (dIt enumT f)) :=
  pi_imp (pi_enT hg hm (pa_cons he pa_nil hs) hs) fun σ H R ⟨S0, H0, S, r, ok, p⟩ => rd_seq ok p fun d v S1 H1 w1 o1 m1 p1 => by
    rw [← hK]
    cases d with
    | tup ds =>
      cases m1 with
      | tup a1 a2 =>
        refine ⟨_, _, rfl, o1.ex.t a1, PostG.go p1 o1.ex _ ⟨_, _, ?_, fun S'' H'' e1 e2 _ => e2.t (e1.t a1), YOk.num a2⟩⟩
        rw [numd_len, ← a2.length]
        exact walk_enT (K := c.K)
    | _ => exact p1.elim
end
end Dx

end S_DxV
section S_DxW
set_option Elab.async false
set_option linter.all false
set_option maxRecDepth 100000
set_option maxHeartbeats 2000000
/-! Dx, part W: t[::-1]. -/
namespace Dx
open PySem L2 PyProof.Rows
section
variable {prog : Program} {w : World} {A : Around} {E : Value → Shared → Prop} {s : Shared}
theorem applied_rev {sl : Addr} {vk : Value} {n : Nat} {Q : Int × Int × Nat → Shared → Prop} (hs : s.heap.IsSliceOf sl .none .none vk) (pk : IsPart vk (some (-1))) (h : Q ((n : Int) - 1, -1, n) s) :
    wpAny (model prog w) A (Builtin.Slice.sliceApplied (.ref sl) (pure (n : Int))) Q E s := by
  obtain ⟨os, hos, hcs, hds⟩ := id hs
  unfold Builtin.Slice.sliceApplied Builtin.Slice.sliceFields
  refine wpAny_bind (wpAny_bind (wpAny_field hos hds (x := .none) rfl (wpAny_bind (wpAny_field hos hds (x := .none) rfl (wpAny_bind (wpAny_field hos hds (x := vk) rfl (wpAny_pure ?_)))))))
  refine wpAny_bind (HT.slicePart_ pk ?_)
  show wpAny _ _ (if ((-1 : Int) == 0) = true then _ else _) _ _ s
  rw [if_neg (by decide)]
  refine wpAny_bind (HT.slicePart_ .none (wpAny_bind (HT.slicePart_ .none (wpAny_bind (wpAny_pure ?_)))))
  have e1 : Builtin.Slice.sliceAdjust none none (-1) (n : Int) = ((n : Int) - 1, -1) := by
    unfold Builtin.Slice.sliceAdjust
    simp
  have e2 : Builtin.Slice.slicePlaces ((n : Int) - 1) (-1) (-1) = n := by
    unfold Builtin.Slice.slicePlaces
    simp
    try omega
  show wpAny _ _ (match Builtin.Slice.sliceAdjust none none (-1) (n : Int) with | (lo, hi) => pure (lo, (-1 : Int), Builtin.Slice.slicePlaces lo hi (-1))) _ _ s
  rw [e1]
  show wpAny _ _ (pure ((n : Int) - 1, (-1 : Int), Builtin.Slice.slicePlaces ((n : Int) - 1) (-1) (-1))) _ _ s
  rw [e2]
  exact wpAny_pure h
theorem pick_rev (xs : Array Value) : ((List.range xs.size).filterMap fun (m : Nat) => xs[((xs.size : Int) - 1 + (m : Int) * (-1)).toNat]?).toArray = xs.toList.reverse.toArray := by
  congr 1
  rw [← PySem.W.krv_all xs, ← List.filterMap_reverse, ← PySem.W.krv_range, List.filterMap_map]
  congr 1
  funext m
  have : ((xs.size : Int) - 1 + (m : Int) * (-1)).toNat = xs.size - 1 - m := by omega
  show xs[((xs.size : Int) - 1 + (m : Int) * (-1)).toNat]? = xs[xs.size - 1 - m]?
  rw [this]
theorem getItem_tup_rev {t sl : Addr} {items : Array Value} {vk : Value} {Q : Value → Shared → Prop} (ht : IsTup s.heap t items) (hs : s.heap.IsSliceOf sl .none .none vk) (pk : IsPart vk (some (-1)))
    (h : Q (.ref s.heap.objs.size) { s with heap := s.heap.push { cls := .type "tuple", data := .seq items.toList.reverse.toArray } })
    (hsz : items.size ≤ sizeLine) : wpAny (model prog w) A (getItem (.ref t) (.ref sl)) Q E s := by
  have hok : sizeOk (.seq items.toList.reverse.toArray) := by
    show items.toList.reverse.toArray.size ≤ sizeLine
    rw [List.size_toArray, List.length_reverse, Array.length_toList]
    exact hsz
  obtain ⟨os, hos, hcs, hds⟩ := id hs
  have hTs : s.TypeIs (.ref sl) "slice" := ⟨os, hos, hcs⟩
  unfold getItem
  try with_reducible refine wpAny_holding ?_
  first | refine wpAny_bind (wpAny_pure ?_) | skip
  refine wpAny_bind (wpAny_sequenceKey ht.typeIs (by decide) ?_)
  refine wpAny_bind (wpAny_callSpecial?_slot (name := Str.ofString "__getitem__") ht.typeIs PyProof.Rows.slot_tuple_getitem (wpAny_call_entry PyProof.Rows.slot_tuple_getitem ht.typeIs entry_tuple_getitem ?_ (args_tuple_getitem _ _)))
  show wpAny _ _ (Builtin.Tuple.tupleItemsOf (.ref t) >>= _) _ _ s
  refine wpAny_bind (tupleItemsOf_ ht ?_)
  refine wpAny_bind (wpAny_typeOf hTs ?_)
  rw [if_pos (by decide)]
  refine wpAny_bind (applied_rev (n := items.size) hs pk ?_)
  show wpAny _ _ (if ((((items.size : Nat) : Int) - 1 == 0 && (-1 : Int) == 1 && items.size == items.size)) = true then _ else _) _ _ s
  rw [if_neg (by simp), pick_rev]
  first
    | exact wpAny_bind (m := Builtin.Tuple.tupleExact _) (wpAny_newObj_type (wpAny_pure ⟨_, rfl, wpAny_pure h⟩) hok)
    | exact wpAny_bind (m := Builtin.Tuple.tupleExact _) (wpAny_newObj_type (wpAny_bind (wpAny_pure (wpAny_pure ⟨_, rfl, wpAny_pure h⟩))) hok)
    | exact wpAny_bind (wpAny_bind (m := Builtin.Tuple.tupleExact _) (wpAny_newObj_type (wpAny_pure (wpAny_pure ⟨_, rfl, wpAny_pure h⟩)) hok))
    | exact wpAny_bind (wpAny_bind (m := Builtin.Tuple.tupleExact _) (wpAny_newObj_type (wpAny_pure ⟨_, rfl, wpAny_pure h⟩) hok))
end
section
variable {X : Cx}
def tRevT (K : PySem.W.Frag) (te : TE) : TE := fun σ H Q => te σ H fun x H1 => ∃ a xs, x = .ref a ∧ SqT K H1 a xs ∧ ∀ p, H1 p = none → Q (.ref p) (upd H1 p (.tup xs.reverse))
theorem pe_revT {e : Expr} {te : TE} {k : Nat} {p1 p2 p3 pos : Pos} (he : PE X e te) : PE X (.Subscript e (.Slice none none (some (.UnaryOp .USub (.Constant (.int 1) k p1) p2)) p3) pos) (tRevT X.K te) := by
  refine ⟨fun pins s σ H Q I h => ?_⟩
  refine Subscript_ (thn (he.run pins s σ H _ I h) fun v s1 ⟨x, H1, I1, r1, q1⟩ => ?_)
  obtain ⟨a, xs, ex, hx, q⟩ := q1
  subst ex
  cases r1
  have hst : PO X (some (.UnaryOp .USub (.Constant (.int 1) k p1) p2)) (tPart (tUn (rU fun i => .int (-i)) (tC (.int 1)))) := po_some (pe_un un_neg pe_int)
  refine wpAny_Slice (thn (po_none.run pins s1 σ H1 (fun o H2 => o = none ∧ H2 = H1) I1 ⟨rfl, rfl⟩) fun vl s2 ⟨l, H2, I2, pl, el, e2⟩ => ?_)
  subst el e2
  refine thn (po_none.run pins s2 σ H2 (fun o H3 => o = none ∧ H3 = H2) I2 ⟨rfl, rfl⟩) fun vu s3 ⟨u, H3, I3, pu, eu, e3⟩ => ?_
  subst eu e3
  refine thn (hst.run pins s3 σ H3 (fun o H4 => o = some (-1) ∧ H4 = H3) I3 ⟨1, rfl, -1, rfl, rfl, rfl⟩) fun vs s4 ⟨o, H4, I4, ps, eo, e4⟩ => ?_
  subst eo e4
  have I5 : Inv X pins σ H4 { s4 with heap := s4.heap.push { cls := .type "slice", data := .fields #[vl, vu, vs] } } := I4.kept (t' := s4.toks) fun b ob q => Heap.get?_push_of_some _ q
  obtain ⟨its, r, ht, hz⟩ := I5.tuple hx
  have hlen := r.length
  cases pl
  cases pu
  show wpAny (model X.prog X.w) X.A (subscriptTail e (.Slice none none (some (.UnaryOp .USub (.Constant (.int 1) k p1) p2)) p3) (.ref a) (.ref s4.heap.objs.size)) (EP X pins σ Q) X.xe _
  refine tail_any (ops := [.ref a, .ref s4.heap.objs.size]) ht.typeIs (PyProof.Rows.slot_tuple_getitem.lookup) ?_ (by with_unfolding_all rfl)
  refine getItem_tup_rev ht (Heap.IsSliceOf.new _ _ _ vs) ps ?_ (by rw [List.size_toArray]; omega)
  refine ⟨.ref _, _, I5.laid (t' := s4.toks) (o := .tup xs.reverse) (fun b ob q => Heap.get?_push_of_some _ q) (Nat.le_refl _) ?_, rfl, q _ (I5.hok.fresh (Nat.le_refl _))⟩
  exact ⟨by rw [List.length_reverse]; exact hz, _, r.reverse, ⟨_, Heap.get?_push_size _ rfl, rfl, _, rfl⟩⟩
variable {c : Cf} {G : List Ow} {f : Rho → Res D} {e : Expr}
def revT : D → Res D
  | .tup ds => .ok (.tup ds.reverse)
  | _ => .bad
theorem de_revT {k : Nat} {p1 p2 p3 pos : Pos} (he : PE X e (tV c G f)) (hK : c.K = X.K := by rfl) : PE X (.Subscript e (.Slice none none (some (.UnaryOp .USub (.Constant (.int 1) k p1) p2)) p3) pos) (tV c G (dUn revT f)) :=
  pe_imp (pe_revT he) fun σ H Q ⟨S0, H0, S, r, ok, p⟩ => rd_seq ok p fun d v S1 H1 w1 o1 m1 p1 => by
    rw [← hK]
    cases d with
    | tup ds =>
      cases m1 with
      | tup a1 a2 =>
        refine ⟨_, _, rfl, o1.ex.t a1, fun q hq => PostG.laid (p1.anti w1.h) o1.ex hq ?_⟩
        exact .tup (.inl (.inl upd_same)) (a2.mono (Ex.new (o1.ex.nn hq))).reverse
    | _ => exact p1.elim
end
end Dx

end S_DxW
section S_P_data
set_option Elab.async false
set_option linter.all false
set_option maxRecDepth 100000
namespace Lk
open PySem L2 Dx
noncomputable section
def isM_BadFace : Str → Option Bool := fun n => if n = "BadOutline" then some false else none
def isM_BadLine : Str → Option Bool := fun n => if n = "BadOutline" then some false else none
def isM_BadOutline : Str → Option Bool := fun n => if n = "BadOutline" then some true else none
def isM_LaidError : Str → Option Bool := fun n => if n = "BadOutline" then some true else none
def isM_ValueError : Str → Option Bool := fun n => if n = "BadOutline" then some true else none

def Fb_edges_of : Rho → SR := (retF (dLc (dIts rng1 (dCons (dCall (g1 lenD) (dCons (dVar 0) dNil)) dNil)) (tgN 1) dYes (dTup (dCons (dOp ixD (dVar 0) (dVar 1)) (dCons (dOp ixD (dVar 0) (dOp modD (dOp addD (dVar 1) (dC (.int 1))) (dCall (g1 lenD) (dCons (dVar 0) dNil)))) dNil))) [1]))
def F_edges_of : List D → Res D := runF 2 false Fb_edges_of

def Fb_is_edge : Rho → SR := (seqF (parF 2 3 (dOp subD (dOp ixD (dVar 1) (dC (.int 0))) (dOp ixD (dVar 0) (dC (.int 0)))) (dOp subD (dOp ixD (dVar 1) (dC (.int 1))) (dOp ixD (dVar 0) (dC (.int 1))))) (seqF (ifF (dAnd (dT (dOp eqD (dVar 2) (dC (.int 0)))) (dT (dOp eqD (dVar 3) (dC (.int 0))))) (retF (dC (.bl false))) .nx) (retF (dOrV (dOp eqD (dVar 2) (dC (.int 0))) (dOrV (dOp eqD (dVar 3) (dC (.int 0))) (dOp eqD (dCall (g1 absD) (dCons (dVar 2) dNil)) (dCall (g1 absD) (dCons (dVar 3) dNil))))))))
def F_is_edge : List D → Res D := runF 4 false Fb_is_edge

def Lp_check_outline_1 : Rho → SR := (ifF (dNot (dT (dCall F_is_edge (dCons (dVar 4) (dCons (dVar 5) dNil))))) (raiF "BadOutline" ["point", "ring"] true (dCons (dVar 1) (dCons (dVar 3) dNil))) .nx)
def Lp_check_outline_2 : Rho → SR := (forF (dIt enumL (dCall F_edges_of (dCons (dVar 2) dNil))) (tgT 2 (tgCons (tgN 3) (tgCons (tgT 2 (tgCons (tgN 4) (tgCons (tgN 5) tgNil))) tgNil))) Lp_check_outline_1)
def Fb_check_outline : Rho → SR := (forF (dIt enumT (dVar 0)) (tgT 2 (tgCons (tgN 1) (tgCons (tgN 2) tgNil))) Lp_check_outline_2)
def F_check_outline : List D → Res D := runF 6 false Fb_check_outline

def Fb_l_cell : Rho → SR := (seqF (ifF (dT (dOp ltD (dVar 1) (dCall (g1 lenD) (dCons (dVar 0) dNil)))) (retF (dCall (g1 intD) (dCons (dOp ixD (dVar 0) (dVar 1)) dNil))) .nx) (retF (dC (.int 0))))
def F_l_cell : List D → Res D := runF 2 false Fb_l_cell

def Lp_l_row_1 : Rho → SR := (seqF (appF 2 (dOp modD (dCall (g1 intD) (dCons (dVar 3) dNil)) (dVar 4))) (setF 3 (dOp fdivD (dVar 3) (dVar 4))))
def Lp_l_row_2 : Rho → SR := (seqF (setF 6 (dOp modD (dCall (g1 intD) (dCons (dOp addD (dOp addD (dOp mulD (dVar 0) (dC (.int 48271))) (dOp mulD (dVar 5) (dC (.int 69621)))) (dC (.int 11))) dNil)) (dC (.int 2147483647)))) (seqF (setF 6 (dOp modD (dCall (g1 intD) (dCons (dOp addD (dOp addD (dOp mulD (dVar 6) (dOp addD (dC (.int 16807)) (dOp mulD (dC (.int 2)) (dVar 5)))) (dOp mulD (dOp mulD (dVar 5) (dVar 5)) (dC (.int 40692)))) (dC (.int 7))) dNil)) (dC (.int 2147483399)))) (appF 2 (dOp modD (dCall (g1 intD) (dCons (dOp fdivD (dVar 6) (dC (.int 31))) dNil)) (dOp ixD (dVar 1) (dVar 5))))))
def Fb_l_row : Rho → SR := (seqF (setF 2 (dLst dNil)) (seqF (ifF (dT (dOp geD (dVar 0) (dC (.int 1000000000000000000)))) (seqF (setF 3 (dOp subD (dVar 0) (dC (.int 1000000000000000000)))) (seqF (forF (dIt itemsL (dVar 1)) (tgN 4) Lp_l_row_1) (retF (dVar 2)))) .nx) (seqF (forF (dIts rng1 (dCons (dCall (g1 lenD) (dCons (dVar 1) dNil)) dNil)) (tgN 5) Lp_l_row_2) (retF (dVar 2)))))
def F_l_row : List D → Res D := runF 7 false Fb_l_row

def Lp_l_same_1 (Fself : List D → Res D) : Rho → SR := (ifF (dNot (dT (dCall Fself (dCons (dOp ixD (dVar 0) (dVar 2)) (dCons (dOp ixD (dVar 1) (dVar 2)) dNil))))) (retF (dC (.bl false))) .nx)
def Fb_l_same (Fself : List D → Res D) : Rho → SR := (seqF (ifF (dT (dUn (isiD "int") (dVar 1))) (retF (dAndV (dUn (isiD "int") (dVar 0)) (dAndV (dNotV (dUn (isiD "bool") (dVar 0))) (dOp eqD (dVar 0) (dVar 1))))) .nx) (seqF (ifF (dT (dUn (isiD "str") (dVar 1))) (retF (dAndV (dUn (isiD "str") (dVar 0)) (dOp eqD (dVar 0) (dVar 1)))) .nx) (seqF (ifF (dOr (dNot (dT (dUn (isiD "tuple") (dVar 0)))) (dT (dOp neD (dCall (g1 lenD) (dCons (dVar 0) dNil)) (dCall (g1 lenD) (dCons (dVar 1) dNil))))) (retF (dC (.bl false))) .nx) (seqF (forF (dIts rng1 (dCons (dCall (g1 lenD) (dCons (dVar 1) dNil)) dNil)) (tgN 2) (Lp_l_same_1 Fself)) (retF (dC (.bl true)))))))
def F_l_same : Nat → List D → Res D
  | 0 => fun _ => .bad
  | n + 1 => runF 3 false (Fb_l_same (F_l_same n))

def Lp_l_reach_1 : Rho → SR := (seqF (parF 5 6 (dOp addD (dOp ixD (dVar 0) (dC (.int 0))) (dOp mulD (dVar 2) (dVar 3))) (dOp addD (dOp ixD (dVar 0) (dC (.int 1))) (dOp mulD (dVar 2) (dVar 4)))) (ifF (dAnd (dT (dChain leD leD (dC (.int 0)) (dVar 5) (dC (.int 12)))) (dT (dChain leD leD (dC (.int 0)) (dVar 6) (dC (.int 12))))) (appF 1 (dTup (dCons (dVar 5) (dCons (dVar 6) dNil)))) .nx))
def Lp_l_reach_2 : Rho → SR := (forF (dIt itemsL (dLst (dCons (dTup (dCons (dC (.int 1)) (dCons (dC (.int 0)) dNil))) (dCons (dTup (dCons (dC (.int 1)) (dCons (dC (.int 1)) dNil))) (dCons (dTup (dCons (dC (.int 0)) (dCons (dC (.int 1)) dNil))) (dCons (dTup (dCons (dUn negD (dC (.int 1))) (dCons (dC (.int 1)) dNil))) (dCons (dTup (dCons (dUn negD (dC (.int 1))) (dCons (dC (.int 0)) dNil))) (dCons (dTup (dCons (dUn negD (dC (.int 1))) (dCons (dUn negD (dC (.int 1))) dNil))) (dCons (dTup (dCons (dC (.int 0)) (dCons (dUn negD (dC (.int 1))) dNil))) (dCons (dTup (dCons (dC (.int 1)) (dCons (dUn negD (dC (.int 1))) dNil))) dNil)))))))))) (tgT 2 (tgCons (tgN 3) (tgCons (tgN 4) tgNil))) Lp_l_reach_1)
def Fb_l_reach : Rho → SR := (seqF (setF 1 (dLst dNil)) (seqF (forF (dIts rng2 (dCons (dC (.int 1)) (dCons (dC (.int 13)) dNil))) (tgN 2) Lp_l_reach_2) (retF (dVar 1))))
def F_l_reach : List D → Res D := runF 7 false Fb_l_reach

def Lp_l_ring_1 : Rho → SR := (seqF (setF 5 (dCall F_l_reach (dCons (dOp ixD (dVar 2) (dUn negD (dC (.int 1)))) dNil))) (seqF (ifF (dT (dOp eqD (dVar 4) (dOp addD (dOp ixD (dVar 1) (dC (.int 0))) (dC (.int 1))))) (setF 5 (dLc (dIt itemsL (dVar 5)) (tgN 6) (dT (dOp inD (dVar 6) (dVar 3))) (dVar 6) [6])) .nx) (seqF (ifF (dT (dOp eqD (dOp ixD (dVar 1) (dC (.int 3))) (dC (.int 0)))) (setF 5 (dSl slD (dVar 5) dNoP (dPart (dC (.int 8))))) .nx) (appF 2 (dOp ixD (dVar 5) (dOp modD (dCall (g1 intD) (dCons (dOp ixD (dVar 1) (dOp addD (dVar 4) (dC (.int 4)))) dNil)) (dCall (g1 lenD) (dCons (dVar 5) dNil))))))))
def Fb_l_ring : Rho → SR := (seqF (setF 1 (dCall F_l_row (dCons (dVar 0) (dCons (dOp addD (dLst (dCons (dC (.int 14)) (dCons (dC (.int 13)) (dCons (dC (.int 13)) (dCons (dC (.int 3)) dNil))))) (dOp mulD (dLst (dCons (dC (.int 48)) dNil)) (dC (.int 15)))) dNil)))) (seqF (setF 2 (dLst (dCons (dTup (dCons (dOp ixD (dVar 1) (dC (.int 1))) (dCons (dOp ixD (dVar 1) (dC (.int 2))) dNil))) dNil))) (seqF (setF 3 (dCall F_l_reach (dCons (dOp ixD (dVar 2) (dC (.int 0))) dNil))) (seqF (forF (dIts rng1 (dCons (dOp addD (dOp ixD (dVar 1) (dC (.int 0))) (dC (.int 2))) dNil)) (tgN 4) Lp_l_ring_1) (retF (dCall (g1 tupleD) (dCons (dVar 2) dNil)))))))
def F_l_ring : List D → Res D := runF 7 false Fb_l_ring

def Lp_l_spoilt_1 : Rho → SR := (ifF (dT (dOp gtD (wLen 2 (wRoot 2)) (dC (.int 0)))) (seqF (aliF 3 (wAt 2 (wRoot 2) (dOp modD (dCall (g1 intD) (dCons (dOp ixD (dVar 1) (dOp addD (dOp mulD (dC (.int 5)) (dVar 4)) (dC (.int 2)))) dNil)) (wLen 2 (wRoot 2))))) (seqF (setF 5 (dOp modD (dCall (g1 intD) (dCons (dOp ixD (dVar 1) (dOp addD (dOp mulD (dC (.int 5)) (dVar 4)) (dC (.int 3)))) dNil)) (dCall (g1 lenD) (dCons (wRow 2 (wVar 3)) dNil)))) (seqF (ifF (dT (dOp geD (dOp ixD (dVar 1) (dOp addD (dOp mulD (dC (.int 5)) (dVar 4)) (dC (.int 3)))) (dC (.int 16)))) (setF 5 (dOp subD (dCall (g1 lenD) (dCons (wRow 2 (wVar 3)) dNil)) (dC (.int 1)))) .nx) (seqF (parF 6 7 (dOp ixD (dVar 1) (dOp addD (dOp mulD (dC (.int 5)) (dVar 4)) (dC (.int 5)))) (dOp ixD (dVar 1) (dOp addD (dOp mulD (dC (.int 5)) (dVar 4)) (dC (.int 6))))) (ifF (dT (dOp eqD (dOp ixD (dVar 1) (dOp addD (dOp mulD (dC (.int 5)) (dVar 4)) (dC (.int 4)))) (dC (.int 0)))) (wSto 2 (wVar 3) (dVar 5) (dTup (dCons (dVar 6) (dCons (dVar 7) dNil)))) (ifF (dT (dOp eqD (dOp ixD (dVar 1) (dOp addD (dOp mulD (dC (.int 5)) (dVar 4)) (dC (.int 4)))) (dC (.int 1)))) (wSto 2 (wVar 3) (dVar 5) (dOp ixD (wRow 2 (wVar 3)) (dOp modD (dCall (g1 intD) (dCons (dOp addD (dVar 5) (dC (.int 1))) dNil)) (dCall (g1 lenD) (dCons (wRow 2 (wVar 3)) dNil))))) (ifF (dT (dOp eqD (dOp ixD (dVar 1) (dOp addD (dOp mulD (dC (.int 5)) (dVar 4)) (dC (.int 4)))) (dC (.int 2)))) (wSto 2 (wVar 3) (dVar 5) (dTup (dCons (dVar 6) (dCons (dOp ixD (dOp ixD (wRow 2 (wVar 3)) (dVar 5)) (dC (.int 1))) dNil)))) (seqF (setF 8 (dCall F_l_reach (dCons (dOp ixD (wRow 2 (wVar 3)) (dOp subD (dVar 5) (dC (.int 1)))) dNil))) (wSto 2 (wVar 3) (dVar 5) (dOp ixD (dVar 8) (dOp modD (dCall (g1 intD) (dCons (dOp addD (dOp mulD (dC (.int 13)) (dVar 6)) (dVar 7)) dNil)) (dCall (g1 lenD) (dCons (dVar 8) dNil))))))))))))) .nx)
def Fb_l_spoilt : Rho → SR := (seqF (setF 2 (dLcG (dIt itemsL (dVar 0)) (tgN 3) dYes (dCall (g1 listD) (dCons (dVar 3) dNil)) [3])) (seqF (nonF 3) (seqF (forF (dIts rng1 (dCons (dOp ixD (dVar 1) (dC (.int 1))) dNil)) (tgN 4) Lp_l_spoilt_1) (seqF (pubF 4 2 [3]) (retF (dCall (g1 tupleD) (dCons (dLc (dIt itemsL (dVar 2)) (tgN 3) dYes (dCall (g1 tupleD) (dCons (dVar 3) dNil)) [3]) dNil)))))))
def F_l_spoilt : List D → Res D := runF 9 false Fb_l_spoilt

def Lp_l_first_bad_1 : Rho → SR := (seqF (asgF (tgT 2 (tgCons (tgN 4) (tgCons (tgN 5) tgNil))) (dOp ixD (dVar 2) (dVar 3))) (seqF (asgF (tgT 2 (tgCons (tgN 6) (tgCons (tgN 7) tgNil))) (dOp ixD (dVar 2) (dOp modD (dCall (g1 intD) (dCons (dOp addD (dVar 3) (dC (.int 1))) dNil)) (dCall (g1 lenD) (dCons (dVar 2) dNil))))) (seqF (parF 8 9 (dCall (g1 absD) (dCons (dOp subD (dVar 6) (dVar 4)) dNil)) (dCall (g1 absD) (dCons (dOp subD (dVar 7) (dVar 5)) dNil))) (ifF (dOr (dAnd (dT (dOp eqD (dVar 8) (dC (.int 0)))) (dT (dOp eqD (dVar 9) (dC (.int 0))))) (dAnd (dT (dOp neD (dVar 8) (dC (.int 0)))) (dAnd (dT (dOp neD (dVar 9) (dC (.int 0)))) (dT (dOp neD (dVar 8) (dVar 9)))))) (retF (dTup (dCons (dC (.str "bad")) (dCons (dVar 1) (dCons (dVar 3) dNil))))) .nx))))
def Lp_l_first_bad_2 : Rho → SR := (seqF (setF 2 (dOp ixD (dVar 0) (dVar 1))) (forF (dIts rng1 (dCons (dCall (g1 lenD) (dCons (dVar 2) dNil)) dNil)) (tgN 3) Lp_l_first_bad_1))
def Fb_l_first_bad : Rho → SR := (seqF (forF (dIts rng1 (dCons (dCall (g1 lenD) (dCons (dVar 0) dNil)) dNil)) (tgN 1) Lp_l_first_bad_2) (retF (dTup (dCons (dC (.str "allowed")) dNil))))
def F_l_first_bad : List D → Res D := runF 10 false Fb_l_first_bad

def Fb_l_told : Rho → SR := (seqF (tryF isM_BadOutline 2 (setF 1 (dCall F_check_outline (dCons (dVar 0) dNil))) (seqF (ifF (dOr (dNot (dT (dIsX isM_LaidError 2))) (dNot (dT (dIsX isM_ValueError 2)))) (retF (dTup (dCons (dC (.str "wrong base")) dNil))) .nx) (seqF (ifF (dOr (dT (dIsX isM_BadFace 2)) (dT (dIsX isM_BadLine 2))) (retF (dTup (dCons (dC (.str "wrong kind")) dNil))) .nx) (retF (dTup (dCons (dC (.str "bad")) (dCons (dXf 2 "ring") (dCons (dXf 2 "point") dNil)))))))) (seqF (ifF (dT (dOp (isD false) (dVar 1) (dC .non))) (retF (dTup (dCons (dC (.str "allowed")) dNil))) .nx) (retF (dTup (dCons (dC (.str "something")) dNil)))))
def F_l_told : List D → Res D := runF 3 false Fb_l_told

def Lp_law_1 : Rho → SR := (seqF (ifF (dNot (dT (dCall (F_l_same 3) (dCons (dCall F_l_told (dCons (dTup (dCons (dOp ixD (dVar 3) (dVar 4)) dNil)) dNil)) (dCons (dTup (dCons (dC (.str "allowed")) dNil)) dNil))))) (retF (dC (.bl false))) .nx) (ifF (dNot (dT (dCall (F_l_same 3) (dCons (dCall F_l_told (dCons (dTup (dCons (dOp ixD (dVar 5) (dVar 4)) dNil)) dNil)) (dCons (dCall F_l_first_bad (dCons (dTup (dCons (dOp ixD (dVar 5) (dVar 4)) dNil)) dNil)) dNil))))) (retF (dC (.bl false))) .nx))
def Lp_law_2 : Rho → SR := (seqF (ifF (dNot (dT (dCall (F_l_same 3) (dCons (dCall F_l_told (dCons (dCall (g1 tupleD) (dCons (dVar 3) dNil)) dNil)) (dCons (dTup (dCons (dC (.str "allowed")) dNil)) dNil))))) (retF (dC (.bl false))) .nx) (seqF (ifF (dNot (dT (dCall (F_l_same 3) (dCons (dCall F_l_told (dCons (dVar 5) dNil)) (dCons (dCall F_l_first_bad (dCons (dVar 5) dNil)) dNil))))) (retF (dC (.bl false))) .nx) (seqF (forF (dIts rng1 (dCons (dCall (g1 lenD) (dCons (dVar 3) dNil)) dNil)) (tgN 4) Lp_law_1) (ifF (dNot (dT (dCall (F_l_same 3) (dCons (dCall F_l_told (dCons (dUn revT (dVar 5)) dNil)) (dCons (dCall F_l_first_bad (dCons (dUn revT (dVar 5)) dNil)) dNil))))) (retF (dC (.bl false))) .nx))))
def Fb_law : Rho → SR := (seqF (setF 1 (dCall F_l_row (dCons (dCall F_l_cell (dCons (dVar 0) (dCons (dC (.int 0)) dNil))) (dCons (dOp addD (dLst (dCons (dC (.int 7)) (dCons (dC (.int 4)) dNil))) (dOp mulD (dLst (dCons (dC (.int 6)) (dCons (dC (.int 20)) (dCons (dC (.int 4)) (dCons (dC (.int 13)) (dCons (dC (.int 13)) dNil)))))) (dC (.int 3)))) dNil)))) (seqF (setF 2 (dOp ixD (dLst (dCons (dC (.int 2)) (dCons (dC (.int 1)) (dCons (dC (.int 3)) (dCons (dC (.int 0)) (dCons (dC (.int 4)) (dCons (dC (.int 5)) (dCons (dC (.int 6)) dNil)))))))) (dOp ixD (dVar 1) (dC (.int 0))))) (seqF (setF 3 (dLc (dIts rng1 (dCons (dVar 2) dNil)) (tgN 4) dYes (dCall F_l_ring (dCons (dOp addD (dCall F_l_cell (dCons (dVar 0) (dCons (dOp addD (dVar 4) (dC (.int 1))) dNil))) (dOp mulD (dC (.int 7919)) (dVar 4))) dNil)) [4])) (seqF (setF 5 (dCall F_l_spoilt (dCons (dVar 3) (dCons (dVar 1) dNil)))) (seqF (forF (dIts rng1 (dCons (dC (.int 2)) dNil)) (tgN 6) Lp_law_2) (retF (dC (.bl true))))))))
def F_law : List D → Res D := runF 7 false Fb_law
end
end Lk

end S_P_data
section S_M_row
set_option linter.all false
set_option maxHeartbeats 1000000
set_option maxRecDepth 100000
namespace Lk
open PySem L2 Dx
/-! ### loops, step by step -/
section
variable {t : D → Rho → Res Rho} {F : Rho → SR} {d : D} {ds : List D} {r r1 r2 : Rho}
theorem loop_nx (h1 : t d r = .ok r1) (h2 : F r1 = .nx r2) : loopF t F (d :: ds) r = loopF t F ds r2 := by rw [loopF, h1]; dsimp only; rw [h2]
theorem loop_ct (h1 : t d r = .ok r1) (h2 : F r1 = .ct r2) : loopF t F (d :: ds) r = loopF t F ds r2 := by rw [loopF, h1]; dsimp only; rw [h2]
theorem loop_rt {e : D} (h1 : t d r = .ok r1) (h2 : F r1 = .rt e) : loopF t F (d :: ds) r = .rt e := by rw [loopF, h1]; dsimp only; rw [h2]
theorem loop_er {n : Str} {ns : List Str} {vs : List D} (h1 : t d r = .ok r1) (h2 : F r1 = .er r2 n ns vs) : loopF t F (d :: ds) r = .er r2 n ns vs := by rw [loopF, h1]; dsimp only; rw [h2]
theorem loop_nil : loopF t F [] r = .nx r := rfl
theorem seq_nx {F K : Rho → SR} (h : F r = .nx r1) : seqF F K r = K r1 := by unfold seqF; rw [h]
theorem seq_rt {F K : Rho → SR} {e : D} (h : F r = .rt e) : seqF F K r = .rt e := by unfold seqF; rw [h]
theorem seq_er {F K : Rho → SR} {n : Str} {ns : List Str} {vs : List D} (h : F r = .er r1 n ns vs) : seqF F K r = .er r1 n ns vs := by unfold seqF; rw [h]
theorem set_ok {f : Rho → Res D} {i : Nat} (h : f r = .ok d) : setF i f r = .nx (r.set i (some d)) := by unfold setF liftS; rw [h]
theorem ret_ok {f : Rho → Res D} (h : f r = .ok d) : retF f r = .rt d := by unfold retF liftS; rw [h]
theorem if_t {t : Rho → Res Bool} {F K : Rho → SR} (h : t r = .ok true) : ifF t F K r = F r := by unfold ifF liftS; rw [h]; rfl
theorem if_f {t : Rho → Res Bool} {F K : Rho → SR} (h : t r = .ok false) : ifF t F K r = K r := by unfold ifF liftS; rw [h]; rfl
theorem for_ok {its : Rho → Res (List D)} (h : its r = .ok ds) : forF its t F r = loopF t F ds r := by unfold forF liftS; rw [h]
theorem app_ok {f : Rho → Res D} {i : Nat} (h1 : r[i]? = some (some (.lst ds))) (h2 : f r = .ok d) (h3 : ds.length < sizeLine) : appF i f r = .nx (r.set i (some (.lst (ds ++ [d])))) := by
  unfold appF ownL liftS
  rw [h1]
  dsimp only
  rw [h2]
  dsimp only
  rw [guardS_pos h3]
theorem run_rt {n : Nat} {rm : Bool} {as : List D} (h : F (startR n as) = .rt d) : runF n rm F as = .ok d := by unfold runF; rw [h]
end
/-! ### rows of draws -/
def digs : Int → List Int → List Int
  | _, [] => []
  | c, l :: ls => c % l :: digs (c / l) ls
def mixv (c : Int) (k : Nat) (l : Int) : Int := (((c * 48271 + (k : Int) * 69621 + 11) % 2147483647) * (16807 + 2 * (k : Int)) + (k : Int) * (k : Int) * 40692 + 7) % 2147483399 / 31 % l
def rowL (c : Int) (ls : List Int) : List Int := if 1000000000000000000 ≤ c then digs (c - 1000000000000000000) ls else (List.range ls.length).map fun k => mixv c k (ls.getD k 1)
abbrev iL (ns : List Int) : D := .lst (ns.map D.int)
theorem loopA (c L : D) : ∀ (ls acc : List Int) (rest : Int) (x4 : Option D), (∀ l ∈ ls, 0 < l ∧ l < 4611686018427387904) → acc.length + ls.length ≤ sizeLine →
    ∃ r3 r4, loopF (tgN 4) Lp_l_row_1 (ls.map D.int) [some c, some L, some (iL acc), some (.int rest), x4, none, none] = .nx [some c, some L, some (iL (acc ++ digs rest ls)), some (.int r3), r4, none, none]
  | [], acc, rest, x4, _, _ => ⟨rest, x4, by simp [loopF, digs]⟩
  | l :: ls, acc, rest, x4, hl, hn => by
    have h1 := hl l (by simp)
    have hn' : acc.length < sizeLine := by simp at hn; omega
    obtain ⟨r3, r4, h⟩ := loopA c L ls (acc ++ [rest % l]) (rest / l) (some (.int l)) (fun x hx => hl x (by simp [hx])) (by simp at hn ⊢; omega)
    refine ⟨r3, r4, ?_⟩
    rw [List.map_cons, loop_nx (r1 := [some c, some L, some (iL acc), some (.int rest), some (.int l), none, none]) (r2 := [some c, some L, some (iL (acc ++ [rest % l])), some (.int (rest / l)), some (.int l), none, none]) rfl, h]
    · simp [digs]
    · simp [Lp_l_row_1, tgN, tgT, tgNil, tgCons, seqF, appF, stoF, asgF, parF, ownL, liftS, dOp, dUn, dVar, dC, dCall, dCons, dNil, g1, g2, intD, lenD, modD, fdivD, mulD, addD, subD, negD, absD, intsD, setF, retF, ifF, dropF, dT, asB, asI, dAnd, dOr, dNot, dIf, dAndV, dOrV, dNotV, dTup, mkTup, dLst, mkLst, dChain, Res.bind, List.set, List.getElem?_cons_zero, List.getElem?_cons_succ, List.getElem?_nil, runF, startR, List.map_cons, List.map_nil, List.replicate, List.length_cons, List.length_nil, List.cons_append, List.nil_append, List.append_nil, ordD, eqD, neD, eqB, eqFlat, isD, isN, forF, dIt, dIts, itemsL, itemsT, itemsS, items, listD, tupleD, rng1, rng2, dYes, wipeR, dLc, dNoP, dPart, dSl, slD, slL, ixD, inD, ninD, inB, dTru, truB, strD, dStr, asS, joinD, joinZ, splitD, fmtD, dJoin, dJcons, dJnil, augF, guard_true, guardS_true, and_self, and_true, true_and, h1, hn']
theorem small_of {i : Int} (h : -1000000000000 < i) (h' : i < 1000000000000) : smallI i := by unfold smallI; omega
theorem sB1 (c : Int) (L A x6 : D) (k : Int) (y6 : Option D) : setF 6 (dOp modD (dCall (g1 intD) (dCons (dOp addD (dOp addD (dOp mulD (dVar 0) (dC (.int 48271))) (dOp mulD (dVar 5) (dC (.int 69621)))) (dC (.int 11))) dNil)) (dC (.int 2147483647))) [some (.int c), some L, some A, none, none, some (.int k), y6] =
    .nx [some (.int c), some L, some A, none, none, some (.int k), some (.int ((c * 48271 + k * 69621 + 11) % 2147483647))] := by
  have a1 : smallI 48271 := small_of (by omega) (by omega)
  have a2 : smallI 69621 := small_of (by omega) (by omega)
  simp [tgN, tgT, tgNil, tgCons, seqF, appF, stoF, asgF, parF, ownL, liftS, dOp, dUn, dVar, dC, dCall, dCons, dNil, g1, g2, intD, lenD, modD, fdivD, mulD, addD, subD, negD, absD, intsD, setF, retF, ifF, dropF, dT, asB, asI, dAnd, dOr, dNot, dIf, dAndV, dOrV, dNotV, dTup, mkTup, dLst, mkLst, dChain, Res.bind, List.set, List.getElem?_cons_zero, List.getElem?_cons_succ, List.getElem?_nil, runF, startR, List.map_cons, List.map_nil, List.replicate, List.length_cons, List.length_nil, List.cons_append, List.nil_append, List.append_nil, ordD, eqD, neD, eqB, eqFlat, isD, isN, forF, dIt, dIts, itemsL, itemsT, itemsS, items, listD, tupleD, rng1, rng2, dYes, wipeR, dLc, dNoP, dPart, dSl, slD, slL, ixD, inD, ninD, inB, dTru, truB, strD, dStr, asS, joinD, joinZ, splitD, fmtD, dJoin, dJcons, dJnil, augF, guard_true, guardS_true, and_self, and_true, true_and, a1, a2]
theorem sB2 (c L A : D) (k m : Int) (hk : smallI k) (hm : smallI m) : setF 6 (dOp modD (dCall (g1 intD) (dCons (dOp addD (dOp addD (dOp mulD (dVar 6) (dOp addD (dC (.int 16807)) (dOp mulD (dC (.int 2)) (dVar 5)))) (dOp mulD (dOp mulD (dVar 5) (dVar 5)) (dC (.int 40692)))) (dC (.int 7))) dNil)) (dC (.int 2147483399))) [some c, some L, some A, none, none, some (.int k), some (.int m)] =
    .nx [some c, some L, some A, none, none, some (.int k), some (.int ((m * (16807 + 2 * k) + k * k * 40692 + 7) % 2147483399))] := by
  have a3 : smallI 40692 := small_of (by omega) (by omega)
  have a4 : smallI 2 := small_of (by omega) (by omega)
  simp [tgN, tgT, tgNil, tgCons, seqF, appF, stoF, asgF, parF, ownL, liftS, dOp, dUn, dVar, dC, dCall, dCons, dNil, g1, g2, intD, lenD, modD, fdivD, mulD, addD, subD, negD, absD, intsD, setF, retF, ifF, dropF, dT, asB, asI, dAnd, dOr, dNot, dIf, dAndV, dOrV, dNotV, dTup, mkTup, dLst, mkLst, dChain, Res.bind, List.set, List.getElem?_cons_zero, List.getElem?_cons_succ, List.getElem?_nil, runF, startR, List.map_cons, List.map_nil, List.replicate, List.length_cons, List.length_nil, List.cons_append, List.nil_append, List.append_nil, ordD, eqD, neD, eqB, eqFlat, isD, isN, forF, dIt, dIts, itemsL, itemsT, itemsS, items, listD, tupleD, rng1, rng2, dYes, wipeR, dLc, dNoP, dPart, dSl, slD, slL, ixD, inD, ninD, inB, dTru, truB, strD, dStr, asS, joinD, joinZ, splitD, fmtD, dJoin, dJcons, dJnil, augF, guard_true, guardS_true, and_self, and_true, true_and, a3, a4, hk, hm]
theorem sB3 (c A : D) (ls : List Int) (k l m : Int) (hat : atI (ls.map D.int) k = some (.int l)) (hl : 0 < l) : dOp modD (dCall (g1 intD) (dCons (dOp fdivD (dVar 6) (dC (.int 31))) dNil)) (dOp ixD (dVar 1) (dVar 5)) [some c, some (iL ls), some A, none, none, some (.int k), some (.int m)] = .ok (.int (m / 31 % l)) := by
  simp [tgN, tgT, tgNil, tgCons, seqF, appF, stoF, asgF, parF, ownL, liftS, dOp, dUn, dVar, dC, dCall, dCons, dNil, g1, g2, intD, lenD, modD, fdivD, mulD, addD, subD, negD, absD, intsD, setF, retF, ifF, dropF, dT, asB, asI, dAnd, dOr, dNot, dIf, dAndV, dOrV, dNotV, dTup, mkTup, dLst, mkLst, dChain, Res.bind, List.set, List.getElem?_cons_zero, List.getElem?_cons_succ, List.getElem?_nil, runF, startR, List.map_cons, List.map_nil, List.replicate, List.length_cons, List.length_nil, List.cons_append, List.nil_append, List.append_nil, ordD, eqD, neD, eqB, eqFlat, isD, isN, forF, dIt, dIts, itemsL, itemsT, itemsS, items, listD, tupleD, rng1, rng2, dYes, wipeR, dLc, dNoP, dPart, dSl, slD, slL, ixD, inD, ninD, inB, dTru, truB, strD, dStr, asS, joinD, joinZ, splitD, fmtD, dJoin, dJcons, dJnil, augF, guard_true, guardS_true, and_self, and_true, true_and, hat, hl]
theorem stepB (c : Int) (ls : List Int) (k : Nat) (l : Int) (acc : List Int) (x6 : Option D) (hk : ls[k]? = some l) (hl : 0 < l) (hkk : k < 100000) (hn : acc.length < sizeLine) :
    ∃ r6, Lp_l_row_2 [some (.int c), some (iL ls), some (iL acc), none, none, some (.int (k : Int)), x6] = .nx [some (.int c), some (iL ls), some (iL (acc ++ [mixv c k l])), none, none, some (.int (k : Int)), r6] := by
  have ak : smallI (k : Int) := small_of (by omega) (by omega)
  have hat : atI (ls.map D.int) (k : Int) = some (.int l) := atI_nat (by rw [List.getElem?_map, hk]; rfl)
  have am : smallI ((c * 48271 + (k : Int) * 69621 + 11) % 2147483647) := by
    generalize c * 48271 + (k : Int) * 69621 + 11 = x
    have := Int.emod_nonneg x (show (2147483647 : Int) ≠ 0 by decide)
    have := Int.emod_lt_of_pos x (show (0 : Int) < 2147483647 by decide)
    exact small_of (by omega) (by omega)
  refine ⟨some (.int ((((c * 48271 + (k : Int) * 69621 + 11) % 2147483647) * (16807 + 2 * (k : Int)) + (k : Int) * (k : Int) * 40692 + 7) % 2147483399)), (seq_nx (sB1 c (iL ls) (iL acc) (iL acc) k x6)).trans ((seq_nx (sB2 (.int c) (iL ls) (iL acc) k _ ak am)).trans ((app_ok (ds := acc.map D.int) rfl (sB3 (.int c) (iL acc) ls k l _ hat hl) (by rw [List.length_map]; exact hn)).trans ?_))⟩
  unfold mixv
  simp only [List.set, iL, List.map_append, List.map_cons, List.map_nil]
theorem loopB (c : Int) (ls : List Int) (hl : ∀ l ∈ ls, 0 < l) (hn : ls.length < 100000) : ∀ (m k : Nat) (acc : List Int) (x5 x6 : Option D), k + m = ls.length → acc.length = k →
    ∃ r5 r6, loopF (tgN 5) Lp_l_row_2 ((List.range' k m).map fun i : Nat => D.int (0 + (i : Int))) [some (.int c), some (iL ls), some (iL acc), none, none, x5, x6] =
      .nx [some (.int c), some (iL ls), some (iL (acc ++ (List.range' k m).map fun j => mixv c j (ls.getD j 1))), none, none, r5, r6]
  | 0, k, acc, x5, x6, _, _ => ⟨x5, x6, by simp [loopF]⟩
  | m + 1, k, acc, x5, x6, hk, ha => by
    have hlt : k < ls.length := by omega
    have hg : ls[k]? = some ls[k] := List.getElem?_eq_getElem hlt
    obtain ⟨q6, hq⟩ := stepB c ls k ls[k] acc x6 hg (hl _ (List.getElem_mem hlt)) (by omega) (by rw [ha]; exact Nat.lt_of_lt_of_le (show k < 100000 by omega) (by decide))
    obtain ⟨r5, r6, h⟩ := loopB c ls hl hn m (k + 1) (acc ++ [mixv c k ls[k]]) (some (.int (k : Int))) q6 (by omega) (by simp [ha])
    refine ⟨r5, r6, ?_⟩
    rw [List.range'_succ, List.map_cons, loop_nx (r1 := [some (.int c), some (iL ls), some (iL acc), none, none, some (.int (k : Int)), x6]) (by simp [tgN]) hq, h]
    simp [hlt]
theorem row_eq (c : Int) (ls : List Int) (hl : ∀ l ∈ ls, 0 < l ∧ l < 4611686018427387904) (hn : ls.length < 100000) : F_l_row [.int c, iL ls] = .ok (iL (rowL c ls)) := by
  have hsz : (100000 : Nat) ≤ sizeLine := by decide
  by_cases hc : 1000000000000000000 ≤ c
  · obtain ⟨r3, r4, h⟩ := loopA (.int c) (iL ls) ls [] (c - 1000000000000000000) none hl (by simp; omega)
    simp [F_l_row, Fb_l_row, tgN, tgT, tgNil, tgCons, seqF, appF, stoF, asgF, parF, ownL, liftS, dOp, dUn, dVar, dC, dCall, dCons, dNil, g1, g2, intD, lenD, modD, fdivD, mulD, addD, subD, negD, absD, intsD, setF, retF, ifF, dropF, dT, asB, asI, dAnd, dOr, dNot, dIf, dAndV, dOrV, dNotV, dTup, mkTup, dLst, mkLst, dChain, Res.bind, List.set, List.getElem?_cons_zero, List.getElem?_cons_succ, List.getElem?_nil, runF, startR, List.map_cons, List.map_nil, List.replicate, List.length_cons, List.length_nil, List.cons_append, List.nil_append, List.append_nil, ordD, eqD, neD, eqB, eqFlat, isD, isN, forF, dIt, dIts, itemsL, itemsT, itemsS, items, listD, tupleD, rng1, rng2, dYes, wipeR, dLc, dNoP, dPart, dSl, slD, slL, ixD, inD, ninD, inB, dTru, truB, strD, dStr, asS, joinD, joinZ, splitD, fmtD, dJoin, dJcons, dJnil, augF, guard_true, guardS_true, and_self, and_true, true_and, hc, rowL]
    rw [show (D.lst [] : D) = iL [] from rfl, h]
    simp
  · obtain ⟨r5, r6, h⟩ := loopB c ls (fun l h => (hl l h).1) hn ls.length 0 [] none none (by omega) rfl
    have hb : ((ls.length : Nat) : Int) < 4611686018427387904 := by omega
    have hb' : (-4611686018427387904 : Int) ≤ ((ls.length : Nat) : Int) := by omega
    have hr : rngL 0 ls.length = (List.range' 0 ls.length).map fun i : Nat => D.int (0 + (i : Int)) := by unfold rngL; rw [List.range_eq_range']
    simp [F_l_row, Fb_l_row, tgN, tgT, tgNil, tgCons, seqF, appF, stoF, asgF, parF, ownL, liftS, dOp, dUn, dVar, dC, dCall, dCons, dNil, g1, g2, intD, lenD, modD, fdivD, mulD, addD, subD, negD, absD, intsD, setF, retF, ifF, dropF, dT, asB, asI, dAnd, dOr, dNot, dIf, dAndV, dOrV, dNotV, dTup, mkTup, dLst, mkLst, dChain, Res.bind, List.set, List.getElem?_cons_zero, List.getElem?_cons_succ, List.getElem?_nil, runF, startR, List.map_cons, List.map_nil, List.replicate, List.length_cons, List.length_nil, List.cons_append, List.nil_append, List.append_nil, ordD, eqD, neD, eqB, eqFlat, isD, isN, forF, dIt, dIts, itemsL, itemsT, itemsS, items, listD, tupleD, rng1, rng2, dYes, wipeR, dLc, dNoP, dPart, dSl, slD, slL, ixD, inD, ninD, inB, dTru, truB, strD, dStr, asS, joinD, joinZ, splitD, fmtD, dJoin, dJcons, dJnil, augF, guard_true, guardS_true, and_self, and_true, true_and, hc, rowL, hb, hb']
    rw [show (D.lst [] : D) = iL [] from rfl, hr, h, List.range_eq_range']
    simp
theorem digs_len : ∀ (ls : List Int) (c : Int), (digs c ls).length = ls.length
  | [], _ => rfl
  | l :: ls, c => by simp [digs, digs_len ls]
theorem rowL_len (c : Int) (ls : List Int) : (rowL c ls).length = ls.length := by
  unfold rowL
  split
  · exact digs_len ls _
  · simp
theorem digs_get : ∀ (ls : List Int) (c : Int) (k : Nat) (l : Int), (∀ l ∈ ls, 0 < l) → ls[k]? = some l → ∃ v, (digs c ls)[k]? = some v ∧ 0 ≤ v ∧ v < l
  | [], _, _, _, _, h => by simp at h
  | l :: ls, c, 0, l', hl, h => by
    simp at h; subst h
    have := hl l (by simp)
    exact ⟨c % l, by simp [digs], Int.emod_nonneg _ (by omega), Int.emod_lt_of_pos _ this⟩
  | l :: ls, c, k + 1, l', hl, h => by
    obtain ⟨v, h1, h2⟩ := digs_get ls (c / l) k l' (fun x hx => hl x (by simp [hx])) (by simpa using h)
    exact ⟨v, by simpa [digs] using h1, h2⟩
theorem rowL_get (c : Int) (ls : List Int) (k : Nat) (l : Int) (hl : ∀ l ∈ ls, 0 < l) (h : ls[k]? = some l) : ∃ v, (rowL c ls)[k]? = some v ∧ 0 ≤ v ∧ v < l := by
  unfold rowL
  split
  · exact digs_get ls _ k l hl h
  · have hk : k < ls.length := (List.getElem?_eq_some_iff.mp h).1
    have hp := hl l (List.mem_of_getElem? h)
    refine ⟨mixv c k l, ?_, ?_, ?_⟩
    · rw [List.getElem?_map, List.getElem?_range hk]
      simp [List.getD_eq_getElem?_getD, h]
    · exact Int.emod_nonneg _ (by omega)
    · exact Int.emod_lt_of_pos _ hp
end Lk

end S_M_row
section S_M_gen
set_option linter.all false
set_option maxHeartbeats 2000000
set_option maxRecDepth 100000
namespace Lk
open PySem L2 Dx TL
theorem sz5 : (100000 : Nat) ≤ sizeLine := by decide
/-! ### steps -/
section
variable {r : Rho} {f f1 f2 f3 : Rho → Res D} {d d1 d2 d3 e : D} {fs : Rho → Res (List D)} {ds es : List D}
theorem op_ok {g : D → D → Res D} (h1 : f1 r = .ok d1) (h2 : f2 r = .ok d2) : dOp g f1 f2 r = g d1 d2 := by unfold dOp; rw [h1]; show Res.bind (f2 r) _ = _; rw [h2]; rfl
theorem str_ok {g : D → D → Res D} {z : Str} (h1 : f1 r = .ok (.str z)) (h2 : f2 r = .ok d2) : dStr g f1 f2 r = g (.str z) d2 := by unfold dStr; rw [h1]; show Res.bind (f2 r) _ = _; rw [h2]; rfl
theorem un_ok {g : D → Res D} (h1 : f1 r = .ok d1) : dUn g f1 r = g d1 := by unfold dUn; rw [h1]; rfl
theorem cons_ok (h1 : f1 r = .ok d1) (h2 : fs r = .ok ds) : dCons f1 fs r = .ok (d1 :: ds) := by unfold dCons; rw [h1]; show Res.bind (fs r) _ = _; rw [h2]; rfl
theorem call_ok {g : List D → Res D} (h : fs r = .ok ds) : dCall g fs r = g ds := by unfold dCall; rw [h]; rfl
theorem call1_ok {g : List D → Res D} (h : f1 r = .ok d1) : dCall g (dCons f1 dNil) r = g [d1] := call_ok (cons_ok h rfl)
theorem call2_ok {g : List D → Res D} (h : f1 r = .ok d1) (h2 : f2 r = .ok d2) : dCall g (dCons f1 (dCons f2 dNil)) r = g [d1, d2] := call_ok (cons_ok h (cons_ok h2 rfl))
theorem T_ok {b : Bool} (h : f r = .ok (.bl b)) : dT f r = .ok b := by unfold dT; rw [h]; rfl
theorem not_ok {t : Rho → Res Bool} {b : Bool} (h : t r = .ok b) : dNot t r = .ok (!b) := by unfold dNot; rw [h]; rfl
theorem or_ok {t u : Rho → Res Bool} {a b : Bool} (h : t r = .ok a) (h2 : u r = .ok b) : dOr t u r = .ok (a || b) := by unfold dOr; rw [h]; cases a <;> simp [Res.bind, h2]
theorem and_ok {t u : Rho → Res Bool} {a b : Bool} (h : t r = .ok a) (h2 : u r = .ok b) : dAnd t u r = .ok (a && b) := by unfold dAnd; rw [h]; cases a <;> simp [Res.bind, h2]
theorem par_ok {i j : Nat} (h1 : f1 r = .ok d1) (h2 : f2 r = .ok d2) : parF i j f1 f2 r = .nx ((r.set i (some d1)).set j (some d2)) := by unfold parF; rw [cons_ok h1 (cons_ok h2 rfl)]; rfl
theorem asg_ok {t : D → Rho → Res Rho} {r' : Rho} (h1 : f r = .ok d) (h2 : t d r = .ok r') : asgF t f r = .nx r' := by unfold asgF; rw [h1]; show (match t d r with | .ok r' => SR.nx r' | _ => .bad) = _; rw [h2]
theorem tup_ok (h : fs r = .ok ds) (hl : ds.length ≤ sizeLine) : dTup fs r = .ok (.tup ds) := by unfold dTup; rw [h]; show mkTup ds = _; unfold mkTup; rw [guard_pos hl]
theorem it_ok {g : D → Res (List D)} (h : f r = .ok d) : dIt g f r = g d := by unfold dIt; rw [h]; rfl
theorem lcd_ok {its : Rho → Res (List D)} {t : D → Rho → Res Rho} {tt : Rho → Res Bool} {fe : Rho → Res D} {vs : List Nat} (h : its r = .ok ds) (hl : ds.length ≤ sizeLine) (h2 : lcLoop t tt fe (wipeR r vs) ds = .ok es) : dLc its t tt fe vs r = .ok (.lst es) := by
  unfold dLc
  rw [h]
  show guard _ _ = _
  rw [guard_pos hl, h2]
end
/-! ### comprehensions -/
theorem lc_map {t : D → Rho → Res Rho} {tt : Rho → Res Bool} {fe : Rho → Res D} {rw : Rho} (f : D → D) : ∀ ds : List D, (∀ d ∈ ds, ∃ r1, t d rw = .ok r1 ∧ tt r1 = .ok true ∧ fe r1 = .ok (f d)) → lcLoop t tt fe rw ds = .ok (ds.map f)
  | [], _ => rfl
  | d :: ds, h => by
    obtain ⟨r1, h1, h2, h3⟩ := h d (by simp)
    rw [lcLoop, h1]
    dsimp only
    rw [h2]
    dsimp only
    rw [h3]
    dsimp only
    rw [lc_map f ds fun x hx => h x (by simp [hx])]
    rfl
theorem ix_lst {ds : List D} {i : Int} {d : D} (h : atI ds i = some d) : ixD (.lst ds) (.int i) = .ok d := by
  show (match atI ds i with | some d => Res.ok d | none => Res.bad) = _
  rw [h]
theorem ix_tup {ds : List D} {i : Int} {d : D} (h : atI ds i = some d) : ixD (.tup ds) (.int i) = .ok d := by
  show (match atI ds i with | some d => Res.ok d | none => Res.bad) = _
  rw [h]
theorem cell_eq (ns : List Int) (k : Nat) (hk : k < 1000) : F_l_cell [.fz (ns.map D.int), .int k] = .ok (.int (ns.getD k 0)) := by
  by_cases h : k < ns.length
  · have h1 : ((k : Nat) : Int) < ((ns.length : Nat) : Int) := by omega
    have h2 : atI (ns.map D.int) (k : Int) = some (.int ns[k]) := atI_nat (by rw [List.getElem?_map, List.getElem?_eq_getElem h]; rfl)
    simp [F_l_cell, Fb_l_cell, tgN, tgT, tgNil, tgCons, seqF, appF, stoF, asgF, parF, ownL, liftS, dOp, dUn, dVar, dC, dCall, dCons, dNil, g1, g2, intD, lenD, modD, fdivD, mulD, addD, subD, negD, absD, intsD, setF, retF, ifF, dropF, dT, asB, asI, dAnd, dOr, dNot, dIf, dAndV, dOrV, dNotV, dTup, mkTup, dLst, mkLst, dChain, Res.bind, List.set, List.getElem?_cons_zero, List.getElem?_cons_succ, List.getElem?_nil, runF, startR, List.map_cons, List.map_nil, List.replicate, List.length_cons, List.length_nil, List.cons_append, List.nil_append, List.append_nil, ordD, eqD, neD, eqB, eqFlat, isD, isN, forF, dIt, dIts, itemsL, itemsT, itemsS, items, listD, tupleD, rng1, rng2, dYes, wipeR, dLc, dNoP, dPart, dSl, slD, slL, ixD, inD, ninD, inB, dTru, truB, strD, dStr, asS, joinD, joinZ, splitD, fmtD, dJoin, dJcons, dJnil, augF, guard_true, guardS_true, and_self, and_true, true_and, h1, h2, h]
  · have h1 : ¬ ((k : Nat) : Int) < ((ns.length : Nat) : Int) := by omega
    simp [F_l_cell, Fb_l_cell, tgN, tgT, tgNil, tgCons, seqF, appF, stoF, asgF, parF, ownL, liftS, dOp, dUn, dVar, dC, dCall, dCons, dNil, g1, g2, intD, lenD, modD, fdivD, mulD, addD, subD, negD, absD, intsD, setF, retF, ifF, dropF, dT, asB, asI, dAnd, dOr, dNot, dIf, dAndV, dOrV, dNotV, dTup, mkTup, dLst, mkLst, dChain, Res.bind, List.set, List.getElem?_cons_zero, List.getElem?_cons_succ, List.getElem?_nil, runF, startR, List.map_cons, List.map_nil, List.replicate, List.length_cons, List.length_nil, List.cons_append, List.nil_append, List.append_nil, ordD, eqD, neD, eqB, eqFlat, isD, isN, forF, dIt, dIts, itemsL, itemsT, itemsS, items, listD, tupleD, rng1, rng2, dYes, wipeR, dLc, dNoP, dPart, dSl, slD, slL, ixD, inD, ninD, inB, dTru, truB, strD, dStr, asS, joinD, joinZ, splitD, fmtD, dJoin, dJcons, dJnil, augF, guard_true, guardS_true, and_self, and_true, true_and, h1, h]
theorem rngL_len (a : Int) (n : Nat) : (rngL a n).length = n := by unfold rngL; simp
theorem rngL_mem {a : Int} {n : Nat} {d : D} (h : d ∈ rngL a n) : ∃ k : Nat, k < n ∧ d = .int (a + (k : Int)) := by
  unfold rngL at h
  obtain ⟨k, h1, rfl⟩ := List.mem_map.mp h
  exact ⟨k, List.mem_range.mp h1, rfl⟩
theorem row_at {c : Int} {ls : List Int} {k : Nat} {l : Int} (hl : ∀ l ∈ ls, 0 < l) (h : ls[k]? = some l) : atI ((rowL c ls).map D.int) (k : Int) = some (.int ((rowL c ls).getD k 0)) ∧ 0 ≤ (rowL c ls).getD k 0 ∧ (rowL c ls).getD k 0 < l := by
  obtain ⟨v, h1, h2, h3⟩ := rowL_get c ls k l hl h
  have e : (rowL c ls).getD k 0 = v := by rw [List.getD_eq_getElem?_getD, h1]; rfl
  rw [e]
  exact ⟨atI_nat (by rw [List.getElem?_map, h1]; rfl), h2, h3⟩
end Lk

end S_M_gen
section S_M_re
set_option linter.all false
set_option maxHeartbeats 2000000
set_option maxRecDepth 100000
namespace Lk
open PySem L2 Dx
abbrev Pt := Int × Int
def pD (p : Pt) : D := .tup [.int p.1, .int p.2]
def Gd (p : Pt) : Prop := 0 ≤ p.1 ∧ p.1 ≤ 12 ∧ 0 ≤ p.2 ∧ p.2 ≤ 12
instance (p : Pt) : Decidable (Gd p) := by unfold Gd; infer_instance
def dirs : List Pt := [(1, 0), (1, 1), (0, 1), (-1, 1), (-1, 0), (-1, -1), (0, -1), (1, -1)]
def stepP (p : Pt) (l : Int) (d : Pt) : Pt := (p.1 + l * d.1, p.2 + l * d.2)
def reach1 (p : Pt) (l : Int) : List Pt → List Pt
  | [] => []
  | d :: ds => if Gd (stepP p l d) then stepP p l d :: reach1 p l ds else reach1 p l ds
def reach2 (p : Pt) : List Int → List Pt
  | [] => []
  | l :: ls => reach1 p l dirs ++ reach2 p ls
def lens : List Int := [1, 2, 3, 4, 5, 6, 7, 8, 9, 10, 11, 12]
def reachL (p : Pt) : List Pt := reach2 p lens
theorem reach1_len (p : Pt) (l : Int) : ∀ ds, (reach1 p l ds).length ≤ ds.length
  | [] => by simp [reach1]
  | d :: ds => by
    have := reach1_len p l ds
    rw [reach1]; split <;> simp <;> omega
theorem reach2_len (p : Pt) : ∀ ls, (reach2 p ls).length ≤ 8 * ls.length
  | [] => by simp [reach2]
  | l :: ls => by
    have h1 := reach2_len p ls
    have h2 := reach1_len p l dirs
    have h3 : dirs.length = 8 := rfl
    rw [reach2, List.length_append, List.length_cons]; omega
theorem reachL_len (p : Pt) : (reachL p).length ≤ 96 := reach2_len p lens
theorem mem_reach1 {p : Pt} {l : Int} {q : Pt} : ∀ {ds : List Pt}, q ∈ reach1 p l ds ↔ ∃ d ∈ ds, q = stepP p l d ∧ Gd q
  | [] => by simp [reach1]
  | d :: ds => by
    rw [reach1]
    split
    · rename_i h
      rw [List.mem_cons, mem_reach1]
      constructor
      · rintro (rfl | ⟨e, h1, h2⟩)
        · exact ⟨d, by simp, rfl, h⟩
        · exact ⟨e, by simp [h1], h2⟩
      · rintro ⟨e, h1, h2, h3⟩
        rcases List.mem_cons.mp h1 with rfl | h1
        · exact .inl h2
        · exact .inr ⟨e, h1, h2, h3⟩
    · rename_i h
      rw [mem_reach1]
      constructor
      · rintro ⟨e, h1, h2⟩
        exact ⟨e, by simp [h1], h2⟩
      · rintro ⟨e, h1, h2, h3⟩
        rcases List.mem_cons.mp h1 with rfl | h1
        · exact absurd (h2 ▸ h3) h
        · exact ⟨e, h1, h2, h3⟩
theorem mem_reach2 {p q : Pt} : ∀ {ls : List Int}, q ∈ reach2 p ls ↔ ∃ l ∈ ls, ∃ d ∈ dirs, q = stepP p l d ∧ Gd q
  | [] => by simp [reach2]
  | l :: ls => by
    rw [reach2, List.mem_append, mem_reach1, mem_reach2]
    simp
/-- an edge -/
def isE (p q : Pt) : Bool := if q.1 - p.1 = 0 ∧ q.2 - p.2 = 0 then false else decide (q.1 - p.1 = 0 ∨ q.2 - p.2 = 0 ∨ (q.1 - p.1).natAbs = (q.2 - p.2).natAbs)
theorem isE_iff {p q : Pt} : isE p q = true ↔ ¬ (q.1 - p.1 = 0 ∧ q.2 - p.2 = 0) ∧ (q.1 - p.1 = 0 ∨ q.2 - p.2 = 0 ∨ (q.1 - p.1).natAbs = (q.2 - p.2).natAbs) := by
  unfold isE
  split
  · rename_i h; simp [h]
  · rename_i h; simp [h]
theorem isE_symm {p q : Pt} (h : isE p q = true) : isE q p = true := by
  rw [isE_iff] at h ⊢
  omega
theorem lens_mem {l : Int} : l ∈ lens ↔ 1 ≤ l ∧ l ≤ 12 := by
  unfold lens
  simp
  omega
theorem reach_edge {p q : Pt} (h : q ∈ reachL p) : isE p q = true ∧ Gd q := by
  obtain ⟨l, hl, d, hd, rfl, hg⟩ := mem_reach2.mp h
  refine ⟨?_, hg⟩
  have hl := lens_mem.mp hl
  rw [isE_iff]
  simp only [dirs, List.mem_cons, List.not_mem_nil, or_false] at hd
  unfold stepP
  rcases hd with rfl | rfl | rfl | rfl | rfl | rfl | rfl | rfl <;> simp only [] <;> omega
theorem reach_line {p q : Pt} (hq : Gd q) (hp : Gd p) (h : (p.1 = q.1 ∧ p.2 ≠ q.2) ∨ (p.2 = q.2 ∧ p.1 ≠ q.1)) : q ∈ reachL p := by
  have key : ∀ (l : Int) (d : Pt), 1 ≤ l → l ≤ 12 → d ∈ dirs → q = stepP p l d → q ∈ reachL p := fun l d h1 h2 h3 h4 => mem_reach2.mpr ⟨l, lens_mem.mpr ⟨h1, h2⟩, d, h3, h4, hq⟩
  unfold Gd at hp hq
  rcases h with ⟨h1, h2⟩ | ⟨h1, h2⟩
  · by_cases h3 : p.2 < q.2
    · exact key (q.2 - p.2) (0, 1) (by omega) (by omega) (by simp [dirs]) (by unfold stepP; ext <;> simp <;> omega)
    · exact key (p.2 - q.2) (0, -1) (by omega) (by omega) (by simp [dirs]) (by unfold stepP; ext <;> simp <;> omega)
  · by_cases h3 : p.1 < q.1
    · exact key (q.1 - p.1) (1, 0) (by omega) (by omega) (by simp [dirs]) (by unfold stepP; ext <;> simp <;> omega)
    · exact key (p.1 - q.1) (-1, 0) (by omega) (by omega) (by simp [dirs]) (by unfold stepP; ext <;> simp <;> omega)
theorem other (a b : Int) : ∃ c : Int, 0 ≤ c ∧ c ≤ 12 ∧ c ≠ a ∧ c ≠ b := by
  by_cases h0 : a ≠ 0 ∧ b ≠ 0
  · exact ⟨0, by omega⟩
  by_cases h1 : a ≠ 1 ∧ b ≠ 1
  · exact ⟨1, by omega⟩
  exact ⟨2, by omega⟩
theorem reach_both {p q : Pt} (hp : Gd p) (hq : Gd q) : ∃ r, r ∈ reachL p ∧ r ∈ reachL q := by
  by_cases h1 : p.1 = q.1
  · obtain ⟨c, c1, c2, c3, c4⟩ := other p.2 q.2
    have hr : Gd (p.1, c) := by unfold Gd at hp ⊢; simp; omega
    exact ⟨(p.1, c), reach_line hr hp (.inl ⟨rfl, fun z => c3 z.symm⟩), reach_line hr hq (.inl ⟨h1.symm, fun z => c4 z.symm⟩)⟩
  by_cases h2 : p.2 = q.2
  · obtain ⟨c, c1, c2, c3, c4⟩ := other p.1 q.1
    have hr : Gd (c, p.2) := by unfold Gd at hp ⊢; simp; omega
    exact ⟨(c, p.2), reach_line hr hp (.inr ⟨rfl, fun z => c3 z.symm⟩), reach_line hr hq (.inr ⟨h2.symm, fun z => c4 z.symm⟩)⟩
  · have hr : Gd (p.1, q.2) := by unfold Gd at hp hq ⊢; simp; omega
    exact ⟨(p.1, q.2), reach_line hr hp (.inl ⟨rfl, h2⟩), reach_line hr hq (.inr ⟨rfl, fun z => h1 z.symm⟩)⟩
theorem reach_ne {p : Pt} (hp : Gd p) : reachL p ≠ [] := by
  obtain ⟨r, h, _⟩ := reach_both hp hp
  intro z
  rw [z] at h; cases h
/-! ### the law's reach -/
theorem re1 (p : Pt) (l : Int) (hl : -100 ≤ l ∧ l ≤ 100) : ∀ (ds : List Pt) (acc : List Pt) (x3 x4 x5 x6 : Option D), (∀ d ∈ ds, d ∈ dirs) → acc.length + ds.length < 1000 →
    ∃ y3 y4 y5 y6, loopF (tgT 2 (tgCons (tgN 3) (tgCons (tgN 4) tgNil))) Lp_l_reach_1 (ds.map pD) [some (pD p), some (.lst (acc.map pD)), some (.int l), x3, x4, x5, x6] = .nx [some (pD p), some (.lst ((acc ++ reach1 p l ds).map pD)), some (.int l), y3, y4, y5, y6]
  | [], acc, x3, x4, x5, x6, _, _ => ⟨x3, x4, x5, x6, by simp [loopF, reach1]⟩
  | d :: ds, acc, x3, x4, x5, x6, hd, hn => by
    have i0 : atI [D.int p.1, D.int p.2] 0 = some (.int p.1) := rfl
    have i1 : atI [D.int p.1, D.int p.2] 1 = some (.int p.2) := rfl
    have sl : smallI l := small_of (by omega) (by omega)
    have hsz : acc.length < sizeLine := Nat.lt_of_lt_of_le (by simp at hn; omega) sz5
    have t2 : (2 : Nat) ≤ sizeLine := by decide
    have ht : tgT 2 (tgCons (tgN 3) (tgCons (tgN 4) tgNil)) (pD d) [some (pD p), some (.lst (acc.map pD)), some (.int l), x3, x4, x5, x6] = .ok [some (pD p), some (.lst (acc.map pD)), some (.int l), some (.int d.1), some (.int d.2), x5, x6] := rfl
    by_cases h : Gd (stepP p l d)
    · obtain ⟨y3, y4, y5, y6, q⟩ := re1 p l hl ds (acc ++ [stepP p l d]) (some (.int d.1)) (some (.int d.2)) (some (.int (p.1 + l * d.1))) (some (.int (p.2 + l * d.2))) (fun e he => hd e (by simp [he])) (by simp at hn ⊢; omega)
      refine ⟨y3, y4, y5, y6, ?_⟩
      obtain ⟨g1, g2, g3, g4⟩ := h
      unfold stepP at g1 g2 g3 g4
      dsimp only at g1 g2 g3 g4
      have step : Lp_l_reach_1 [some (pD p), some (.lst (acc.map pD)), some (.int l), some (.int d.1), some (.int d.2), x5, x6] = .nx [some (pD p), some (.lst ((acc ++ [stepP p l d]).map pD)), some (.int l), some (.int d.1), some (.int d.2), some (.int (p.1 + l * d.1)), some (.int (p.2 + l * d.2))] := by
        simp [Lp_l_reach_1, pD, tgN, tgT, tgNil, tgCons, seqF, appF, stoF, asgF, parF, ownL, liftS, dOp, dUn, dVar, dC, dCall, dCons, dNil, g1, g2, intD, lenD, modD, fdivD, mulD, addD, subD, negD, absD, intsD, setF, retF, ifF, dropF, dT, asB, asI, dAnd, dOr, dNot, dIf, dAndV, dOrV, dNotV, dTup, mkTup, dLst, mkLst, dChain, Res.bind, List.set, List.getElem?_cons_zero, List.getElem?_cons_succ, List.getElem?_nil, runF, startR, List.map_cons, List.map_nil, List.replicate, List.length_cons, List.length_nil, List.cons_append, List.nil_append, List.append_nil, ordD, eqD, neD, eqB, eqFlat, isD, isN, forF, dIt, dIts, itemsL, itemsT, itemsS, items, listD, tupleD, rng1, rng2, dYes, wipeR, dLc, dNoP, dPart, dSl, slD, slL, ixD, inD, ninD, inB, dTru, truB, strD, dStr, asS, joinD, joinZ, splitD, fmtD, dJoin, dJcons, dJnil, augF, guard_true, guardS_true, and_self, and_true, true_and, i0, i1, sl, g1, g2, g3, g4, hsz, t2, stepP]
      rw [List.map_cons, loop_nx ht step, q]
      have hg : Gd (stepP p l d) := ⟨g1, g2, g3, g4⟩
      simp [reach1, hg]
    · obtain ⟨y3, y4, y5, y6, q⟩ := re1 p l hl ds acc (some (.int d.1)) (some (.int d.2)) (some (.int (p.1 + l * d.1))) (some (.int (p.2 + l * d.2))) (fun e he => hd e (by simp [he])) (by simp at hn ⊢; omega)
      refine ⟨y3, y4, y5, y6, ?_⟩
      have step : Lp_l_reach_1 [some (pD p), some (.lst (acc.map pD)), some (.int l), some (.int d.1), some (.int d.2), x5, x6] = .nx [some (pD p), some (.lst (acc.map pD)), some (.int l), some (.int d.1), some (.int d.2), some (.int (p.1 + l * d.1)), some (.int (p.2 + l * d.2))] := by
        have h' := h
        unfold Gd stepP at h'
        dsimp only at h'
        by_cases g1 : 0 ≤ p.1 + l * d.1
        · by_cases g2 : p.1 + l * d.1 ≤ 12
          · by_cases g3 : 0 ≤ p.2 + l * d.2
            · have g4 : ¬ p.2 + l * d.2 ≤ 12 := fun g4 => h' ⟨g1, g2, g3, g4⟩
              simp [Lp_l_reach_1, pD, tgN, tgT, tgNil, tgCons, seqF, appF, stoF, asgF, parF, ownL, liftS, dOp, dUn, dVar, dC, dCall, dCons, dNil, g1, g2, intD, lenD, modD, fdivD, mulD, addD, subD, negD, absD, intsD, setF, retF, ifF, dropF, dT, asB, asI, dAnd, dOr, dNot, dIf, dAndV, dOrV, dNotV, dTup, mkTup, dLst, mkLst, dChain, Res.bind, List.set, List.getElem?_cons_zero, List.getElem?_cons_succ, List.getElem?_nil, runF, startR, List.map_cons, List.map_nil, List.replicate, List.length_cons, List.length_nil, List.cons_append, List.nil_append, List.append_nil, ordD, eqD, neD, eqB, eqFlat, isD, isN, forF, dIt, dIts, itemsL, itemsT, itemsS, items, listD, tupleD, rng1, rng2, dYes, wipeR, dLc, dNoP, dPart, dSl, slD, slL, ixD, inD, ninD, inB, dTru, truB, strD, dStr, asS, joinD, joinZ, splitD, fmtD, dJoin, dJcons, dJnil, augF, guard_true, guardS_true, and_self, and_true, true_and, i0, i1, sl, g1, g2, g3, g4]
            · simp [Lp_l_reach_1, pD, tgN, tgT, tgNil, tgCons, seqF, appF, stoF, asgF, parF, ownL, liftS, dOp, dUn, dVar, dC, dCall, dCons, dNil, g1, g2, intD, lenD, modD, fdivD, mulD, addD, subD, negD, absD, intsD, setF, retF, ifF, dropF, dT, asB, asI, dAnd, dOr, dNot, dIf, dAndV, dOrV, dNotV, dTup, mkTup, dLst, mkLst, dChain, Res.bind, List.set, List.getElem?_cons_zero, List.getElem?_cons_succ, List.getElem?_nil, runF, startR, List.map_cons, List.map_nil, List.replicate, List.length_cons, List.length_nil, List.cons_append, List.nil_append, List.append_nil, ordD, eqD, neD, eqB, eqFlat, isD, isN, forF, dIt, dIts, itemsL, itemsT, itemsS, items, listD, tupleD, rng1, rng2, dYes, wipeR, dLc, dNoP, dPart, dSl, slD, slL, ixD, inD, ninD, inB, dTru, truB, strD, dStr, asS, joinD, joinZ, splitD, fmtD, dJoin, dJcons, dJnil, augF, guard_true, guardS_true, and_self, and_true, true_and, i0, i1, sl, g1, g2, g3]
          · simp [Lp_l_reach_1, pD, tgN, tgT, tgNil, tgCons, seqF, appF, stoF, asgF, parF, ownL, liftS, dOp, dUn, dVar, dC, dCall, dCons, dNil, g1, g2, intD, lenD, modD, fdivD, mulD, addD, subD, negD, absD, intsD, setF, retF, ifF, dropF, dT, asB, asI, dAnd, dOr, dNot, dIf, dAndV, dOrV, dNotV, dTup, mkTup, dLst, mkLst, dChain, Res.bind, List.set, List.getElem?_cons_zero, List.getElem?_cons_succ, List.getElem?_nil, runF, startR, List.map_cons, List.map_nil, List.replicate, List.length_cons, List.length_nil, List.cons_append, List.nil_append, List.append_nil, ordD, eqD, neD, eqB, eqFlat, isD, isN, forF, dIt, dIts, itemsL, itemsT, itemsS, items, listD, tupleD, rng1, rng2, dYes, wipeR, dLc, dNoP, dPart, dSl, slD, slL, ixD, inD, ninD, inB, dTru, truB, strD, dStr, asS, joinD, joinZ, splitD, fmtD, dJoin, dJcons, dJnil, augF, guard_true, guardS_true, and_self, and_true, true_and, i0, i1, sl, g1, g2]
        · simp [Lp_l_reach_1, pD, tgN, tgT, tgNil, tgCons, seqF, appF, stoF, asgF, parF, ownL, liftS, dOp, dUn, dVar, dC, dCall, dCons, dNil, g1, g2, intD, lenD, modD, fdivD, mulD, addD, subD, negD, absD, intsD, setF, retF, ifF, dropF, dT, asB, asI, dAnd, dOr, dNot, dIf, dAndV, dOrV, dNotV, dTup, mkTup, dLst, mkLst, dChain, Res.bind, List.set, List.getElem?_cons_zero, List.getElem?_cons_succ, List.getElem?_nil, runF, startR, List.map_cons, List.map_nil, List.replicate, List.length_cons, List.length_nil, List.cons_append, List.nil_append, List.append_nil, ordD, eqD, neD, eqB, eqFlat, isD, isN, forF, dIt, dIts, itemsL, itemsT, itemsS, items, listD, tupleD, rng1, rng2, dYes, wipeR, dLc, dNoP, dPart, dSl, slD, slL, ixD, inD, ninD, inB, dTru, truB, strD, dStr, asS, joinD, joinZ, splitD, fmtD, dJoin, dJcons, dJnil, augF, guard_true, guardS_true, and_self, and_true, true_and, i0, i1, sl, g1]
      rw [List.map_cons, loop_nx ht step, q]
      simp [reach1, h]
end Lk

end S_M_re
section S_M_ed
set_option linter.all false
set_option maxHeartbeats 2000000
set_option maxRecDepth 100000
namespace Lk
open PySem L2 Dx
theorem dirs_lst (r : Rho) : dLst (dCons (dTup (dCons (dC (.int 1)) (dCons (dC (.int 0)) dNil))) (dCons (dTup (dCons (dC (.int 1)) (dCons (dC (.int 1)) dNil))) (dCons (dTup (dCons (dC (.int 0)) (dCons (dC (.int 1)) dNil))) (dCons (dTup (dCons (dUn negD (dC (.int 1))) (dCons (dC (.int 1)) dNil))) (dCons (dTup (dCons (dUn negD (dC (.int 1))) (dCons (dC (.int 0)) dNil))) (dCons (dTup (dCons (dUn negD (dC (.int 1))) (dCons (dUn negD (dC (.int 1))) dNil))) (dCons (dTup (dCons (dC (.int 0)) (dCons (dUn negD (dC (.int 1))) dNil))) (dCons (dTup (dCons (dC (.int 1)) (dCons (dUn negD (dC (.int 1))) dNil))) dNil)))))))) r = .ok (.lst (dirs.map pD)) := by
  have t2 : (2 : Nat) ≤ sizeLine := by decide
  have t8 : (8 : Nat) ≤ sizeLine := by decide
  simp [tgN, tgT, tgNil, tgCons, seqF, appF, stoF, asgF, parF, ownL, liftS, dOp, dUn, dVar, dC, dCall, dCons, dNil, g1, g2, intD, lenD, modD, fdivD, mulD, addD, subD, negD, absD, intsD, setF, retF, ifF, dropF, dT, asB, asI, dAnd, dOr, dNot, dIf, dAndV, dOrV, dNotV, dTup, mkTup, dLst, mkLst, dChain, Res.bind, List.set, List.getElem?_cons_zero, List.getElem?_cons_succ, List.getElem?_nil, runF, startR, List.map_cons, List.map_nil, List.replicate, List.length_cons, List.length_nil, List.cons_append, List.nil_append, List.append_nil, ordD, eqD, neD, eqB, eqFlat, isD, isN, forF, dIt, dIts, itemsL, itemsT, itemsS, items, listD, tupleD, rng1, rng2, dYes, wipeR, dLc, dNoP, dPart, dSl, slD, slL, ixD, inD, ninD, inB, dTru, truB, strD, dStr, asS, joinD, joinZ, splitD, fmtD, dJoin, dJcons, dJnil, augF, guard_true, guardS_true, and_self, and_true, true_and, t2, t8, dirs, pD]
theorem re2 (p : Pt) : ∀ (ls : List Int) (acc : List Pt) (x2 x3 x4 x5 x6 : Option D), (∀ l ∈ ls, -100 ≤ l ∧ l ≤ 100) → acc.length + 8 * ls.length < 900 →
    ∃ y2 y3 y4 y5 y6, loopF (tgN 2) Lp_l_reach_2 (ls.map D.int) [some (pD p), some (.lst (acc.map pD)), x2, x3, x4, x5, x6] = .nx [some (pD p), some (.lst ((acc ++ reach2 p ls).map pD)), y2, y3, y4, y5, y6]
  | [], acc, x2, x3, x4, x5, x6, _, _ => ⟨x2, x3, x4, x5, x6, by simp [loopF, reach2]⟩
  | l :: ls, acc, x2, x3, x4, x5, x6, hl, hn => by
    have h8 : dirs.length = 8 := rfl
    have h1l := reach1_len p l dirs
    obtain ⟨z3, z4, z5, z6, h1⟩ := re1 p l (hl l (by simp)) dirs acc x3 x4 x5 x6 (fun d h => h) (by simp at hn; omega)
    obtain ⟨y2, y3, y4, y5, y6, q⟩ := re2 p ls (acc ++ reach1 p l dirs) (some (.int l)) z3 z4 z5 z6 (fun m hm => hl m (by simp [hm])) (by simp at hn ⊢; omega)
    refine ⟨y2, y3, y4, y5, y6, ?_⟩
    have step : Lp_l_reach_2 [some (pD p), some (.lst (acc.map pD)), some (.int l), x3, x4, x5, x6] = .nx [some (pD p), some (.lst ((acc ++ reach1 p l dirs).map pD)), some (.int l), z3, z4, z5, z6] := by
      rw [Lp_l_reach_2, for_ok (ds := dirs.map pD), h1]
      unfold dIt
      rw [dirs_lst]
      rfl
    rw [List.map_cons, loop_nx (r1 := [some (pD p), some (.lst (acc.map pD)), some (.int l), x3, x4, x5, x6]) rfl step, q]
    simp [reach2]
theorem reach_eq (p : Pt) : F_l_reach [pD p] = .ok (.lst ((reachL p).map pD)) := by
  obtain ⟨y2, y3, y4, y5, y6, q⟩ := re2 p lens [] none none none none none (fun l h => by have := lens_mem.mp h; omega) (by decide)
  refine run_rt ?_
  show Fb_l_reach [some (pD p), none, none, none, none, none, none] = _
  have s1 : setF 1 (dLst dNil) [some (pD p), none, none, none, none, none, none] = .nx [some (pD p), some (.lst (([] : List Pt).map pD)), none, none, none, none, none] := by simp [tgN, tgT, tgNil, tgCons, seqF, appF, stoF, asgF, parF, ownL, liftS, dOp, dUn, dVar, dC, dCall, dCons, dNil, g1, g2, intD, lenD, modD, fdivD, mulD, addD, subD, negD, absD, intsD, setF, retF, ifF, dropF, dT, asB, asI, dAnd, dOr, dNot, dIf, dAndV, dOrV, dNotV, dTup, mkTup, dLst, mkLst, dChain, Res.bind, List.set, List.getElem?_cons_zero, List.getElem?_cons_succ, List.getElem?_nil, runF, startR, List.map_cons, List.map_nil, List.replicate, List.length_cons, List.length_nil, List.cons_append, List.nil_append, List.append_nil, ordD, eqD, neD, eqB, eqFlat, isD, isN, forF, dIt, dIts, itemsL, itemsT, itemsS, items, listD, tupleD, rng1, rng2, dYes, wipeR, dLc, dNoP, dPart, dSl, slD, slL, ixD, inD, ninD, inB, dTru, truB, strD, dStr, asS, joinD, joinZ, splitD, fmtD, dJoin, dJcons, dJnil, augF, guard_true, guardS_true, and_self, and_true, true_and]
  rw [Fb_l_reach, seq_nx s1, seq_nx ((for_ok (ds := lens.map D.int) ?_).trans q)]
  · rfl
  · simp [tgN, tgT, tgNil, tgCons, seqF, appF, stoF, asgF, parF, ownL, liftS, dOp, dUn, dVar, dC, dCall, dCons, dNil, g1, g2, intD, lenD, modD, fdivD, mulD, addD, subD, negD, absD, intsD, setF, retF, ifF, dropF, dT, asB, asI, dAnd, dOr, dNot, dIf, dAndV, dOrV, dNotV, dTup, mkTup, dLst, mkLst, dChain, Res.bind, List.set, List.getElem?_cons_zero, List.getElem?_cons_succ, List.getElem?_nil, runF, startR, List.map_cons, List.map_nil, List.replicate, List.length_cons, List.length_nil, List.cons_append, List.nil_append, List.append_nil, ordD, eqD, neD, eqB, eqFlat, isD, isN, forF, dIt, dIts, itemsL, itemsT, itemsS, items, listD, tupleD, rng1, rng2, dYes, wipeR, dLc, dNoP, dPart, dSl, slD, slL, ixD, inD, ninD, inB, dTru, truB, strD, dStr, asS, joinD, joinZ, splitD, fmtD, dJoin, dJcons, dJnil, augF, guard_true, guardS_true, and_self, and_true, true_and, rngL, lens, List.range, List.range.loop]
/-! ### edges -/
theorem px0 (p : Pt) : ixD (pD p) (.int 0) = .ok (.int p.1) := ix_tup rfl
theorem px1 (p : Pt) : ixD (pD p) (.int 1) = .ok (.int p.2) := ix_tup rfl
theorem edge_eq (p q : Pt) : F_is_edge [pD p, pD q] = .ok (.bl (isE p q)) := by
  refine run_rt ?_
  show Fb_is_edge [some (pD p), some (pD q), none, none] = _
  have s1 : parF 2 3 (dOp subD (dOp ixD (dVar 1) (dC (.int 0))) (dOp ixD (dVar 0) (dC (.int 0)))) (dOp subD (dOp ixD (dVar 1) (dC (.int 1))) (dOp ixD (dVar 0) (dC (.int 1)))) [some (pD p), some (pD q), none, none] = .nx [some (pD p), some (pD q), some (.int (q.1 - p.1)), some (.int (q.2 - p.2))] := by
    have e1 : dOp subD (dOp ixD (dVar 1) (dC (.int 0))) (dOp ixD (dVar 0) (dC (.int 0))) [some (pD p), some (pD q), none, none] = .ok (.int (q.1 - p.1)) := by
      rw [op_ok ((op_ok (d1 := pD q) (d2 := .int 0) rfl rfl).trans (px0 q)) ((op_ok (d1 := pD p) (d2 := .int 0) rfl rfl).trans (px0 p))]; rfl
    have e2 : dOp subD (dOp ixD (dVar 1) (dC (.int 1))) (dOp ixD (dVar 0) (dC (.int 1))) [some (pD p), some (pD q), none, none] = .ok (.int (q.2 - p.2)) := by
      rw [op_ok ((op_ok (d1 := pD q) (d2 := .int 1) rfl rfl).trans (px1 q)) ((op_ok (d1 := pD p) (d2 := .int 1) rfl rfl).trans (px1 p))]; rfl
    exact par_ok e1 e2
  rw [Fb_is_edge, seq_nx s1]
  unfold isE
  by_cases h : q.1 - p.1 = 0 ∧ q.2 - p.2 = 0
  · rw [if_pos h]
    obtain ⟨h1, h2⟩ := h
    simp [tgN, tgT, tgNil, tgCons, seqF, appF, stoF, asgF, parF, ownL, liftS, dOp, dUn, dVar, dC, dCall, dCons, dNil, g1, g2, intD, lenD, modD, fdivD, mulD, addD, subD, negD, absD, intsD, setF, retF, ifF, dropF, dT, asB, asI, dAnd, dOr, dNot, dIf, dAndV, dOrV, dNotV, dTup, mkTup, dLst, mkLst, dChain, Res.bind, List.set, List.getElem?_cons_zero, List.getElem?_cons_succ, List.getElem?_nil, runF, startR, List.map_cons, List.map_nil, List.replicate, List.length_cons, List.length_nil, List.cons_append, List.nil_append, List.append_nil, ordD, eqD, neD, eqB, eqFlat, isD, isN, forF, dIt, dIts, itemsL, itemsT, itemsS, items, listD, tupleD, rng1, rng2, dYes, wipeR, dLc, dNoP, dPart, dSl, slD, slL, ixD, inD, ninD, inB, dTru, truB, strD, dStr, asS, joinD, joinZ, splitD, fmtD, dJoin, dJcons, dJnil, augF, guard_true, guardS_true, and_self, and_true, true_and, h1, h2]
  · rw [if_neg h]
    by_cases h1 : q.1 - p.1 = 0
    · have h2 : ¬ q.2 - p.2 = 0 := fun z => h ⟨h1, z⟩
      simp [tgN, tgT, tgNil, tgCons, seqF, appF, stoF, asgF, parF, ownL, liftS, dOp, dUn, dVar, dC, dCall, dCons, dNil, g1, g2, intD, lenD, modD, fdivD, mulD, addD, subD, negD, absD, intsD, setF, retF, ifF, dropF, dT, asB, asI, dAnd, dOr, dNot, dIf, dAndV, dOrV, dNotV, dTup, mkTup, dLst, mkLst, dChain, Res.bind, List.set, List.getElem?_cons_zero, List.getElem?_cons_succ, List.getElem?_nil, runF, startR, List.map_cons, List.map_nil, List.replicate, List.length_cons, List.length_nil, List.cons_append, List.nil_append, List.append_nil, ordD, eqD, neD, eqB, eqFlat, isD, isN, forF, dIt, dIts, itemsL, itemsT, itemsS, items, listD, tupleD, rng1, rng2, dYes, wipeR, dLc, dNoP, dPart, dSl, slD, slL, ixD, inD, ninD, inB, dTru, truB, strD, dStr, asS, joinD, joinZ, splitD, fmtD, dJoin, dJcons, dJnil, augF, guard_true, guardS_true, and_self, and_true, true_and, h1, h2]
    · by_cases h2 : q.2 - p.2 = 0
      · simp [tgN, tgT, tgNil, tgCons, seqF, appF, stoF, asgF, parF, ownL, liftS, dOp, dUn, dVar, dC, dCall, dCons, dNil, g1, g2, intD, lenD, modD, fdivD, mulD, addD, subD, negD, absD, intsD, setF, retF, ifF, dropF, dT, asB, asI, dAnd, dOr, dNot, dIf, dAndV, dOrV, dNotV, dTup, mkTup, dLst, mkLst, dChain, Res.bind, List.set, List.getElem?_cons_zero, List.getElem?_cons_succ, List.getElem?_nil, runF, startR, List.map_cons, List.map_nil, List.replicate, List.length_cons, List.length_nil, List.cons_append, List.nil_append, List.append_nil, ordD, eqD, neD, eqB, eqFlat, isD, isN, forF, dIt, dIts, itemsL, itemsT, itemsS, items, listD, tupleD, rng1, rng2, dYes, wipeR, dLc, dNoP, dPart, dSl, slD, slL, ixD, inD, ninD, inB, dTru, truB, strD, dStr, asS, joinD, joinZ, splitD, fmtD, dJoin, dJcons, dJnil, augF, guard_true, guardS_true, and_self, and_true, true_and, h1, h2]
      · simp [tgN, tgT, tgNil, tgCons, seqF, appF, stoF, asgF, parF, ownL, liftS, dOp, dUn, dVar, dC, dCall, dCons, dNil, g1, g2, intD, lenD, modD, fdivD, mulD, addD, subD, negD, absD, intsD, setF, retF, ifF, dropF, dT, asB, asI, dAnd, dOr, dNot, dIf, dAndV, dOrV, dNotV, dTup, mkTup, dLst, mkLst, dChain, Res.bind, List.set, List.getElem?_cons_zero, List.getElem?_cons_succ, List.getElem?_nil, runF, startR, List.map_cons, List.map_nil, List.replicate, List.length_cons, List.length_nil, List.cons_append, List.nil_append, List.append_nil, ordD, eqD, neD, eqB, eqFlat, isD, isN, forF, dIt, dIts, itemsL, itemsT, itemsS, items, listD, tupleD, rng1, rng2, dYes, wipeR, dLc, dNoP, dPart, dSl, slD, slL, ixD, inD, ninD, inB, dTru, truB, strD, dStr, asS, joinD, joinZ, splitD, fmtD, dJoin, dJcons, dJnil, augF, guard_true, guardS_true, and_self, and_true, true_and, h1, h2]
        omega
/-! ### the pairs of neighbours -/
def rD (ring : List Pt) : D := .tup (ring.map pD)
def oD (rings : List (List Pt)) : D := .tup (rings.map rD)
def nb (ring : List Pt) (k : Nat) : Pt × Pt := (ring.getD k (0, 0), ring.getD ((k + 1) % ring.length) (0, 0))
def prs (ring : List Pt) : List (Pt × Pt) := (List.range ring.length).map (nb ring)
def eD (e : Pt × Pt) : D := .tup [pD e.1, pD e.2]
theorem ring_at {ring : List Pt} {k : Nat} (h : k < ring.length) : ixD (rD ring) (.int (k : Int)) = .ok (pD (ring.getD k (0, 0))) := by
  refine ix_tup (atI_nat ?_)
  rw [List.getElem?_map, List.getElem?_eq_getElem h, List.getD_eq_getElem?_getD, List.getElem?_eq_getElem h]
  rfl
theorem nxt_mod (k n : Nat) : ((k : Int) + 1) % (n : Int) = (((k + 1) % n : Nat) : Int) := by
  first
  | exact (Int.natCast_emod (k + 1) n).symm
  | exact (Int.ofNat_emod (k + 1) n).symm
  | simp
theorem edges_eq (ring : List Pt) (hn : ring.length < 1000) : F_edges_of [rD ring] = .ok (.lst ((prs ring).map eD)) := by
  refine run_rt ?_
  show Fb_edges_of [some (rD ring), none] = _
  have t2 : (2 : Nat) ≤ sizeLine := by decide
  have hlen : ∀ x : Option D, dCall (g1 lenD) (dCons (dVar 0) dNil) [some (rD ring), x] = .ok (.int (ring.length : Int)) := fun x => by
    rw [call1_ok (d1 := rD ring) rfl]
    show lenD (.tup (ring.map pD)) = _
    simp [lenD]
  refine ret_ok (lcd_ok (ds := rngL 0 ring.length) ?_ (by rw [rngL_len]; exact Nat.le_trans (by omega) sz5) ?_)
  · have h1 : (-4611686018427387904 : Int) ≤ (ring.length : Int) ∧ (ring.length : Int) < 4611686018427387904 := by omega
    unfold dIts
    rw [cons_ok (hlen none) rfl]
    show rng1 [.int (ring.length : Int)] = _
    show guard _ _ = _
    rw [guard_pos h1]
    rfl
  · rw [lc_map (fun d => match d with | .int i => eD (nb ring i.toNat) | d => d)]
    · unfold prs rngL
      rw [List.map_map, List.map_map]
      congr 1
      refine List.map_congr_left fun k hk => ?_
      simp
    · intro d hd
      obtain ⟨k, hk, rfl⟩ := rngL_mem hd
      refine ⟨[some (rD ring), some (.int (0 + (k : Int)))], rfl, rfl, ?_⟩
      have e0 : (0 + (k : Int)) = (k : Int) := by omega
      rw [e0]
      have hpos : 0 < ring.length := by omega
      have m1 : (k + 1) % ring.length < ring.length := Nat.mod_lt _ hpos
      refine (tup_ok (ds := [pD (ring.getD k (0, 0)), pD (ring.getD ((k + 1) % ring.length) (0, 0))]) ?_ t2).trans ?_
      · refine cons_ok ((op_ok (d1 := rD ring) (d2 := .int k) rfl rfl).trans (ring_at hk)) (cons_ok ?_ rfl)
        refine (op_ok (d1 := rD ring) (d2 := .int (((k + 1) % ring.length : Nat) : Int)) rfl ?_).trans (ring_at m1)
        rw [op_ok (d1 := .int ((k : Int) + 1)) (op_ok (d1 := .int k) (d2 := .int 1) rfl rfl) (hlen _)]
        show guard _ _ = _
        rw [guard_pos (by omega), nxt_mod]
      · simp [eD, nb]
/-! ### the first bad edge -/
def scan1 : Nat → List (Pt × Pt) → Option Nat
  | _, [] => none
  | n, e :: es => if isE e.1 e.2 = true then scan1 (n + 1) es else some n
def scan2 : Nat → List (List Pt) → Option (Nat × Nat)
  | _, [] => none
  | n, ring :: rs => match scan1 0 (prs ring) with
    | some k => some (n, k)
    | none => scan2 (n + 1) rs
theorem co1 (o rg : D) (i : Int) : ∀ (es : List (Pt × Pt)) (n : Nat) (x3 x4 x5 : Option D),
    (∃ y3 y4 y5, scan1 n es = none ∧ loopF (tgT 2 (tgCons (tgN 3) (tgCons (tgT 2 (tgCons (tgN 4) (tgCons (tgN 5) tgNil))) tgNil))) Lp_check_outline_1 (numd n (es.map eD)) [some o, some (.int i), some rg, x3, x4, x5] = .nx [some o, some (.int i), some rg, y3, y4, y5]) ∨
    (∃ k r, scan1 n es = some k ∧ loopF (tgT 2 (tgCons (tgN 3) (tgCons (tgT 2 (tgCons (tgN 4) (tgCons (tgN 5) tgNil))) tgNil))) Lp_check_outline_1 (numd n (es.map eD)) [some o, some (.int i), some rg, x3, x4, x5] = .er r "BadOutline" ["point", "ring"] [.int k, .int i])
  | [], n, x3, x4, x5 => .inl ⟨x3, x4, x5, rfl, rfl⟩
  | e :: es, n, x3, x4, x5 => by
    have ht : tgT 2 (tgCons (tgN 3) (tgCons (tgT 2 (tgCons (tgN 4) (tgCons (tgN 5) tgNil))) tgNil)) (.tup [.int (n : Int), eD e]) [some o, some (.int i), some rg, x3, x4, x5] = .ok [some o, some (.int i), some rg, some (.int n), some (pD e.1), some (pD e.2)] := rfl
    have hc : dT (dCall F_is_edge (dCons (dVar 4) (dCons (dVar 5) dNil))) [some o, some (.int i), some rg, some (.int n), some (pD e.1), some (pD e.2)] = .ok (isE e.1 e.2) := T_ok ((call2_ok (d1 := pD e.1) (d2 := pD e.2) rfl rfl).trans (edge_eq _ _))
    rw [List.map_cons, numd]
    by_cases h : isE e.1 e.2 = true
    · have step : Lp_check_outline_1 [some o, some (.int i), some rg, some (.int n), some (pD e.1), some (pD e.2)] = .nx [some o, some (.int i), some rg, some (.int n), some (pD e.1), some (pD e.2)] := by
        rw [Lp_check_outline_1, if_f (not_ok (b := true) (hc.trans (by rw [h])))]
      rcases co1 o rg i es (n + 1) (some (.int n)) (some (pD e.1)) (some (pD e.2)) with ⟨y3, y4, y5, q1, q2⟩ | ⟨k, r, q1, q2⟩
      · exact .inl ⟨y3, y4, y5, by rw [scan1, if_pos h]; exact q1, by rw [loop_nx ht step, q2]⟩
      · exact .inr ⟨k, r, by rw [scan1, if_pos h]; exact q1, by rw [loop_nx ht step, q2]⟩
    · have hf : isE e.1 e.2 = false := by simpa using h
      refine .inr ⟨n, [some o, some (.int i), some rg, some (.int n), some (pD e.1), some (pD e.2)], by rw [scan1, if_neg h], ?_⟩
      rw [loop_er ht]
      rw [Lp_check_outline_1, if_t (not_ok (b := false) (hc.trans (by rw [hf])))]
      unfold raiF
      rw [cons_ok (d1 := .int i) rfl (cons_ok (d1 := .int n) rfl rfl)]
      rfl
theorem co2 (o : D) : ∀ (rs : List (List Pt)) (n : Nat) (x1 x2 x3 x4 x5 : Option D), (∀ ring ∈ rs, ring.length < 1000) →
    (∃ r, scan2 n rs = none ∧ loopF (tgT 2 (tgCons (tgN 1) (tgCons (tgN 2) tgNil))) Lp_check_outline_2 (numd n (rs.map rD)) [some o, x1, x2, x3, x4, x5] = .nx r) ∨
    (∃ i k r, scan2 n rs = some (i, k) ∧ loopF (tgT 2 (tgCons (tgN 1) (tgCons (tgN 2) tgNil))) Lp_check_outline_2 (numd n (rs.map rD)) [some o, x1, x2, x3, x4, x5] = .er r "BadOutline" ["point", "ring"] [.int (k : Int), .int (i : Int)])
  | [], n, x1, x2, x3, x4, x5, _ => .inl ⟨_, rfl, rfl⟩
  | ring :: rs, n, x1, x2, x3, x4, x5, hl => by
    have ht : tgT 2 (tgCons (tgN 1) (tgCons (tgN 2) tgNil)) (.tup [.int (n : Int), rD ring]) [some o, x1, x2, x3, x4, x5] = .ok [some o, some (.int n), some (rD ring), x3, x4, x5] := rfl
    have hi : dIt enumL (dCall F_edges_of (dCons (dVar 2) dNil)) [some o, some (.int n), some (rD ring), x3, x4, x5] = .ok (numd 0 ((prs ring).map eD)) := by
      rw [it_ok ((call1_ok (d1 := rD ring) rfl).trans (edges_eq ring (hl ring (by simp))))]
      rfl
    rw [List.map_cons, numd]
    rcases co1 o (rD ring) n (prs ring) 0 x3 x4 x5 with ⟨y3, y4, y5, q1, q2⟩ | ⟨k, r, q1, q2⟩
    · have step : Lp_check_outline_2 [some o, some (.int n), some (rD ring), x3, x4, x5] = .nx [some o, some (.int n), some (rD ring), y3, y4, y5] := by rw [Lp_check_outline_2, for_ok hi]; exact q2
      rcases co2 o rs (n + 1) (some (.int n)) (some (rD ring)) y3 y4 y5 (fun x hx => hl x (by simp [hx])) with ⟨r', p1, p2⟩ | ⟨i, k, r', p1, p2⟩
      · exact .inl ⟨r', by rw [scan2, q1]; exact p1, by rw [loop_nx ht step, p2]⟩
      · exact .inr ⟨i, k, r', by rw [scan2, q1]; exact p1, by rw [loop_nx ht step, p2]⟩
    · refine .inr ⟨n, k, r, by rw [scan2, q1], ?_⟩
      rw [loop_er ht]
      rw [Lp_check_outline_2, for_ok hi]
      exact q2
def ansD (rs : List (List Pt)) : D := match scan2 0 rs with
  | none => .tup [.str "allowed"]
  | some (i, k) => .tup [.str "bad", .int (i : Int), .int (k : Int)]
theorem told_eq (rs : List (List Pt)) (hl : ∀ ring ∈ rs, ring.length < 1000) : F_l_told [oD rs] = .ok (ansD rs) := by
  have t1 : (1 : Nat) ≤ sizeLine := by decide
  have t3 : (3 : Nat) ≤ sizeLine := by decide
  have hit : dIt enumT (dVar 0) [some (oD rs), none, none, none, none, none] = .ok (numd 0 (rs.map rD)) := rfl
  unfold ansD
  rcases co2 (oD rs) rs 0 none none none none none hl with ⟨r, p1, p2⟩ | ⟨i, k, r, p1, p2⟩
  · have hc : F_check_outline [oD rs] = .ok .non := by
      show runF 6 false Fb_check_outline [oD rs] = _
      unfold runF
      show (match Fb_check_outline [some (oD rs), none, none, none, none, none] with | .rt d => Res.ok d | .nx _ => if false = true then .bad else .ok .non | .er _ n ns vs => .err n ns vs | _ => .bad) = _
      rw [Fb_check_outline, for_ok hit, p2]
      rfl
    rw [p1]
    simp [F_l_told, Fb_l_told, tgN, tgT, tgNil, tgCons, seqF, appF, stoF, asgF, parF, ownL, liftS, dOp, dUn, dVar, dC, dCall, dCons, dNil, g1, g2, intD, lenD, modD, fdivD, mulD, addD, subD, negD, absD, intsD, setF, retF, ifF, dropF, dT, asB, asI, dAnd, dOr, dNot, dIf, dAndV, dOrV, dNotV, dTup, mkTup, dLst, mkLst, dChain, Res.bind, List.set, List.getElem?_cons_zero, List.getElem?_cons_succ, List.getElem?_nil, runF, startR, List.map_cons, List.map_nil, List.replicate, List.length_cons, List.length_nil, List.cons_append, List.nil_append, List.append_nil, ordD, eqD, neD, eqB, eqFlat, isD, isN, forF, dIt, dIts, itemsL, itemsT, itemsS, items, listD, tupleD, rng1, rng2, dYes, wipeR, dLc, dNoP, dPart, dSl, slD, slL, ixD, inD, ninD, inB, dTru, truB, strD, dStr, asS, joinD, joinZ, splitD, fmtD, dJoin, dJcons, dJnil, augF, guard_true, guardS_true, and_self, and_true, true_and, tryF, hc, t1]
  · have hc : F_check_outline [oD rs] = .err "BadOutline" ["point", "ring"] [.int (k : Int), .int (i : Int)] := by
      show runF 6 false Fb_check_outline [oD rs] = _
      unfold runF
      show (match Fb_check_outline [some (oD rs), none, none, none, none, none] with | .rt d => Res.ok d | .nx _ => if false = true then .bad else .ok .non | .er _ n ns vs => .err n ns vs | _ => .bad) = _
      rw [Fb_check_outline, for_ok hit, p2]
    rw [p1]
    have b1 : ((Str.ofString "ring") == (Str.ofString "point")) = false := by decide +kernel
    simp [F_l_told, Fb_l_told, tgN, tgT, tgNil, tgCons, seqF, appF, stoF, asgF, parF, ownL, liftS, dOp, dUn, dVar, dC, dCall, dCons, dNil, g1, g2, intD, lenD, modD, fdivD, mulD, addD, subD, negD, absD, intsD, setF, retF, ifF, dropF, dT, asB, asI, dAnd, dOr, dNot, dIf, dAndV, dOrV, dNotV, dTup, mkTup, dLst, mkLst, dChain, Res.bind, List.set, List.getElem?_cons_zero, List.getElem?_cons_succ, List.getElem?_nil, runF, startR, List.map_cons, List.map_nil, List.replicate, List.length_cons, List.length_nil, List.cons_append, List.nil_append, List.append_nil, ordD, eqD, neD, eqB, eqFlat, isD, isN, forF, dIt, dIts, itemsL, itemsT, itemsS, items, listD, tupleD, rng1, rng2, dYes, wipeR, dLc, dNoP, dPart, dSl, slD, slL, ixD, inD, ninD, inB, dTru, truB, strD, dStr, asS, joinD, joinZ, splitD, fmtD, dJoin, dJcons, dJnil, augF, guard_true, guardS_true, and_self, and_true, true_and, tryF, hc, t1, t3, List.lookup, b1, unsetS, isM_BadOutline, isM_LaidError, isM_ValueError, isM_BadFace, isM_BadLine, dIsX, dXf, lookF]
/-! ### the law's own search -/
theorem bad_iff (a b : Pt) : ((decide ((if b.1 - a.1 < 0 then -(b.1 - a.1) else b.1 - a.1) = 0) && decide ((if b.2 - a.2 < 0 then -(b.2 - a.2) else b.2 - a.2) = 0)) || (!decide ((if b.1 - a.1 < 0 then -(b.1 - a.1) else b.1 - a.1) = 0) && (!decide ((if b.2 - a.2 < 0 then -(b.2 - a.2) else b.2 - a.2) = 0) && !decide ((if b.1 - a.1 < 0 then -(b.1 - a.1) else b.1 - a.1) = (if b.2 - a.2 < 0 then -(b.2 - a.2) else b.2 - a.2))))) = !isE a b := by
  unfold isE
  generalize b.1 - a.1 = u
  generalize b.2 - a.2 = v
  by_cases h : u = 0 ∧ v = 0
  · obtain ⟨h1, h2⟩ := h
    simp [h1, h2]
  · rw [if_neg h]
    by_cases h1 : u = 0
    · have h2 : v ≠ 0 := fun z => h ⟨h1, z⟩
      have : ¬ (if v < 0 then -v else v) = 0 := by split <;> omega
      simp [h1, h2, this]
    · have e1 : ¬ (if u < 0 then -u else u) = 0 := by split <;> omega
      by_cases h2 : v = 0
      · simp [h1, h2, e1]
      · have e2 : ¬ (if v < 0 then -v else v) = 0 := by split <;> omega
        have e3 : ((if u < 0 then -u else u) = (if v < 0 then -v else v)) ↔ u.natAbs = v.natAbs := by split <;> split <;> omega
        simp [h1, h2, e1, e2, e3]
theorem fb1 (o : D) (i : Int) (ring : List Pt) (hn : ring.length < 1000) : ∀ (m k : Nat) (x3 x4 x5 x6 x7 x8 x9 : Option D), k + m = ring.length →
    (∃ y3 y4 y5 y6 y7 y8 y9, scan1 k ((List.range' k m).map (nb ring)) = none ∧ loopF (tgN 3) Lp_l_first_bad_1 ((List.range' k m).map fun (j : Nat) => D.int (j : Int)) [some o, some (.int i), some (rD ring), x3, x4, x5, x6, x7, x8, x9] = .nx [some o, some (.int i), some (rD ring), y3, y4, y5, y6, y7, y8, y9]) ∨
    (∃ j : Nat, scan1 k ((List.range' k m).map (nb ring)) = some j ∧ loopF (tgN 3) Lp_l_first_bad_1 ((List.range' k m).map fun (j : Nat) => D.int (j : Int)) [some o, some (.int i), some (rD ring), x3, x4, x5, x6, x7, x8, x9] = .rt (.tup [.str "bad", .int i, .int (j : Int)]))
  | 0, k, x3, x4, x5, x6, x7, x8, x9, _ => .inl ⟨x3, x4, x5, x6, x7, x8, x9, rfl, rfl⟩
  | m + 1, k, x3, x4, x5, x6, x7, x8, x9, hk => by
    have t3 : (3 : Nat) ≤ sizeLine := by decide
    have hpos : 0 < ring.length := by omega
    have m1 : (k + 1) % ring.length < ring.length := Nat.mod_lt _ hpos
    generalize ha : ring.getD k (0, 0) = a
    generalize hb : ring.getD ((k + 1) % ring.length) (0, 0) = b
    have hnb : nb ring k = (a, b) := by unfold nb; rw [ha, hb]
    have r0 := ring_at (ring := ring) (k := k) (by omega)
    rw [ha] at r0
    have r1 := ring_at m1
    rw [hb] at r1
    have s1 : asgF (tgT 2 (tgCons (tgN 4) (tgCons (tgN 5) tgNil))) (dOp ixD (dVar 2) (dVar 3)) [some o, some (.int i), some (rD ring), some (.int k), x4, x5, x6, x7, x8, x9] = .nx [some o, some (.int i), some (rD ring), some (.int k), some (.int a.1), some (.int a.2), x6, x7, x8, x9] :=
      asg_ok (d := pD a) ((op_ok (d1 := rD ring) (d2 := .int k) rfl rfl).trans r0) rfl
    have s2 : asgF (tgT 2 (tgCons (tgN 6) (tgCons (tgN 7) tgNil))) (dOp ixD (dVar 2) (dOp modD (dCall (g1 intD) (dCons (dOp addD (dVar 3) (dC (.int 1))) dNil)) (dCall (g1 lenD) (dCons (dVar 2) dNil)))) [some o, some (.int i), some (rD ring), some (.int k), some (.int a.1), some (.int a.2), x6, x7, x8, x9] = .nx [some o, some (.int i), some (rD ring), some (.int k), some (.int a.1), some (.int a.2), some (.int b.1), some (.int b.2), x8, x9] := by
      refine asg_ok (d := pD b) ((op_ok (d1 := rD ring) (d2 := .int (((k + 1) % ring.length : Nat) : Int)) rfl ?_).trans r1) rfl
      rw [op_ok (d1 := .int ((k : Int) + 1)) (d2 := .int (ring.length : Int)) ((call1_ok (d1 := .int ((k : Int) + 1)) rfl).trans rfl) ((call1_ok (d1 := rD ring) rfl).trans (by show lenD (.tup (ring.map pD)) = _; simp [lenD]))]
      show guard _ _ = _
      rw [guard_pos (by omega), nxt_mod]
    have s3 : parF 8 9 (dCall (g1 absD) (dCons (dOp subD (dVar 6) (dVar 4)) dNil)) (dCall (g1 absD) (dCons (dOp subD (dVar 7) (dVar 5)) dNil)) [some o, some (.int i), some (rD ring), some (.int k), some (.int a.1), some (.int a.2), some (.int b.1), some (.int b.2), x8, x9] = .nx [some o, some (.int i), some (rD ring), some (.int k), some (.int a.1), some (.int a.2), some (.int b.1), some (.int b.2), some (.int (if b.1 - a.1 < 0 then -(b.1 - a.1) else b.1 - a.1)), some (.int (if b.2 - a.2 < 0 then -(b.2 - a.2) else b.2 - a.2))] := par_ok rfl rfl
    have s4 : dOr (dAnd (dT (dOp eqD (dVar 8) (dC (.int 0)))) (dT (dOp eqD (dVar 9) (dC (.int 0))))) (dAnd (dT (dOp neD (dVar 8) (dC (.int 0)))) (dAnd (dT (dOp neD (dVar 9) (dC (.int 0)))) (dT (dOp neD (dVar 8) (dVar 9))))) [some o, some (.int i), some (rD ring), some (.int k), some (.int a.1), some (.int a.2), some (.int b.1), some (.int b.2), some (.int (if b.1 - a.1 < 0 then -(b.1 - a.1) else b.1 - a.1)), some (.int (if b.2 - a.2 < 0 then -(b.2 - a.2) else b.2 - a.2))] = .ok (!isE a b) := by
      rw [← bad_iff a b]
      exact or_ok (and_ok (T_ok rfl) (T_ok rfl)) (and_ok (T_ok rfl) (and_ok (T_ok rfl) (T_ok rfl)))
    rw [List.range'_succ, List.map_cons, List.map_cons, hnb]
    by_cases h : isE a b = true
    · have step : Lp_l_first_bad_1 [some o, some (.int i), some (rD ring), some (.int k), x4, x5, x6, x7, x8, x9] = .nx [some o, some (.int i), some (rD ring), some (.int k), some (.int a.1), some (.int a.2), some (.int b.1), some (.int b.2), some (.int (if b.1 - a.1 < 0 then -(b.1 - a.1) else b.1 - a.1)), some (.int (if b.2 - a.2 < 0 then -(b.2 - a.2) else b.2 - a.2))] := by
        rw [Lp_l_first_bad_1, seq_nx s1, seq_nx s2, seq_nx s3, if_f (s4.trans (by rw [h]; rfl))]
      rcases fb1 o i ring hn m (k + 1) (some (.int k)) _ _ _ _ _ _ (by omega) with ⟨y3, y4, y5, y6, y7, y8, y9, q1, q2⟩ | ⟨j, q1, q2⟩
      · exact .inl ⟨y3, y4, y5, y6, y7, y8, y9, by rw [scan1, if_pos h]; exact q1, by rw [loop_nx (r1 := [some o, some (.int i), some (rD ring), some (.int k), x4, x5, x6, x7, x8, x9]) rfl step]; exact q2⟩
      · exact .inr ⟨j, by rw [scan1, if_pos h]; exact q1, by rw [loop_nx (r1 := [some o, some (.int i), some (rD ring), some (.int k), x4, x5, x6, x7, x8, x9]) rfl step]; exact q2⟩
    · have hf : isE a b = false := by simpa using h
      refine .inr ⟨k, by rw [scan1, if_neg h], ?_⟩
      rw [loop_rt (r1 := [some o, some (.int i), some (rD ring), some (.int k), x4, x5, x6, x7, x8, x9]) rfl]
      rw [Lp_l_first_bad_1, seq_nx s1, seq_nx s2, seq_nx s3, if_t (s4.trans (by rw [hf]; rfl))]
      exact ret_ok (tup_ok rfl t3)
end Lk

end S_M_ed
section S_M_fb
set_option linter.all false
set_option maxHeartbeats 2000000
set_option maxRecDepth 100000
namespace Lk
open PySem L2 Dx
theorem rng0 (n : Nat) : rngL 0 n = (List.range' 0 n).map fun (i : Nat) => D.int (i : Int) := by
  unfold rngL
  rw [List.range_eq_range']
  refine List.map_congr_left fun k hk => ?_
  simp
theorem rng1_ok {f : Rho → Res D} {r : Rho} {n : Nat} (hn : n < 100000) (h : f r = .ok (.int (n : Int))) : dIts rng1 (dCons f dNil) r = .ok ((List.range' 0 n).map fun (i : Nat) => D.int (i : Int)) := by
  unfold dIts
  rw [cons_ok h rfl]
  show guard _ _ = _
  rw [guard_pos (by omega), Int.toNat_natCast, rng0]
theorem len_ring (ring : List Pt) : g1 lenD [rD ring] = .ok (.int (ring.length : Int)) := by
  show lenD (.tup (ring.map pD)) = _
  simp [lenD]
theorem len_out (rs : List (List Pt)) : g1 lenD [oD rs] = .ok (.int (rs.length : Int)) := by
  show lenD (.tup (rs.map rD)) = _
  simp [lenD]
theorem out_at {rs : List (List Pt)} {k : Nat} (h : k < rs.length) : ixD (oD rs) (.int (k : Int)) = .ok (rD (rs.getD k [])) := by
  refine ix_tup (atI_nat ?_)
  rw [List.getElem?_map, List.getElem?_eq_getElem h, List.getD_eq_getElem?_getD, List.getElem?_eq_getElem h]
  rfl
theorem prs_range (ring : List Pt) : prs ring = (List.range' 0 ring.length).map (nb ring) := by
  unfold prs
  rw [List.range_eq_range']
theorem fb2 (rs : List (List Pt)) (hn : rs.length < 1000) (hl : ∀ ring ∈ rs, ring.length < 1000) : ∀ (m k : Nat) (x1 x2 x3 x4 x5 x6 x7 x8 x9 : Option D), k + m = rs.length →
    (∃ r, scan2 k (rs.drop k) = none ∧ loopF (tgN 1) Lp_l_first_bad_2 ((List.range' k m).map fun (j : Nat) => D.int (j : Int)) [some (oD rs), x1, x2, x3, x4, x5, x6, x7, x8, x9] = .nx r) ∨
    (∃ i j : Nat, scan2 k (rs.drop k) = some (i, j) ∧ loopF (tgN 1) Lp_l_first_bad_2 ((List.range' k m).map fun (j : Nat) => D.int (j : Int)) [some (oD rs), x1, x2, x3, x4, x5, x6, x7, x8, x9] = .rt (.tup [.str "bad", .int (i : Int), .int (j : Int)]))
  | 0, k, x1, x2, x3, x4, x5, x6, x7, x8, x9, hk => .inl ⟨_, by rw [List.drop_eq_nil_of_le (by omega)]; rfl, rfl⟩
  | m + 1, k, x1, x2, x3, x4, x5, x6, x7, x8, x9, hk => by
    have hkl : k < rs.length := by omega
    have hdrop : rs.drop k = rs.getD k [] :: rs.drop (k + 1) := by
      rw [List.drop_eq_getElem_cons hkl, List.getD_eq_getElem?_getD, List.getElem?_eq_getElem hkl]; rfl
    have hmem : rs.getD k [] ∈ rs := by rw [List.getD_eq_getElem?_getD, List.getElem?_eq_getElem hkl]; exact List.getElem_mem hkl
    have ha := out_at hkl
    rw [hdrop]
    generalize rs.getD k [] = ring at ha hmem hdrop
    have hr := hl ring hmem
    have s1 : setF 2 (dOp ixD (dVar 0) (dVar 1)) [some (oD rs), some (.int k), x2, x3, x4, x5, x6, x7, x8, x9] = .nx [some (oD rs), some (.int k), some (rD ring), x3, x4, x5, x6, x7, x8, x9] := set_ok ((op_ok (d1 := oD rs) (d2 := .int k) rfl rfl).trans ha)
    have s2 : dIts rng1 (dCons (dCall (g1 lenD) (dCons (dVar 2) dNil)) dNil) [some (oD rs), some (.int k), some (rD ring), x3, x4, x5, x6, x7, x8, x9] = .ok ((List.range' 0 ring.length).map fun (i : Nat) => D.int (i : Int)) := rng1_ok (by omega) ((call1_ok (d1 := rD ring) rfl).trans (len_ring ring))
    rw [List.range'_succ, List.map_cons, scan2, prs_range]
    rcases fb1 (oD rs) k ring hr ring.length 0 x3 x4 x5 x6 x7 x8 x9 (by omega) with ⟨y3, y4, y5, y6, y7, y8, y9, q1, q2⟩ | ⟨j, q1, q2⟩
    · have step : Lp_l_first_bad_2 [some (oD rs), some (.int k), x2, x3, x4, x5, x6, x7, x8, x9] = .nx [some (oD rs), some (.int k), some (rD ring), y3, y4, y5, y6, y7, y8, y9] := by
        rw [Lp_l_first_bad_2, seq_nx s1, for_ok s2]
        exact q2
      rw [q1]
      dsimp only
      rcases fb2 rs hn hl m (k + 1) (some (.int k)) (some (rD ring)) y3 y4 y5 y6 y7 y8 y9 (by omega) with ⟨r, p1, p2⟩ | ⟨i, j, p1, p2⟩
      · exact .inl ⟨r, p1, by rw [loop_nx (r1 := [some (oD rs), some (.int k), x2, x3, x4, x5, x6, x7, x8, x9]) rfl step]; exact p2⟩
      · exact .inr ⟨i, j, p1, by rw [loop_nx (r1 := [some (oD rs), some (.int k), x2, x3, x4, x5, x6, x7, x8, x9]) rfl step]; exact p2⟩
    · rw [q1]
      refine .inr ⟨k, j, rfl, ?_⟩
      rw [loop_rt (r1 := [some (oD rs), some (.int k), x2, x3, x4, x5, x6, x7, x8, x9]) rfl]
      rw [Lp_l_first_bad_2, seq_nx s1, for_ok s2]
      exact q2
theorem fb_eq (rs : List (List Pt)) (hn : rs.length < 1000) (hl : ∀ ring ∈ rs, ring.length < 1000) : F_l_first_bad [oD rs] = .ok (ansD rs) := by
  have t1 : (1 : Nat) ≤ sizeLine := by decide
  refine run_rt ?_
  show Fb_l_first_bad [some (oD rs), none, none, none, none, none, none, none, none, none] = _
  have s1 : dIts rng1 (dCons (dCall (g1 lenD) (dCons (dVar 0) dNil)) dNil) [some (oD rs), none, none, none, none, none, none, none, none, none] = .ok ((List.range' 0 rs.length).map fun (i : Nat) => D.int (i : Int)) := rng1_ok (by omega) ((call1_ok (d1 := oD rs) rfl).trans (len_out rs))
  unfold ansD
  rcases fb2 rs hn hl rs.length 0 none none none none none none none none none (by omega) with ⟨r, p1, p2⟩ | ⟨i, j, p1, p2⟩
  · rw [List.drop_zero] at p1
    rw [p1, Fb_l_first_bad, seq_nx ((for_ok s1).trans p2)]
    exact ret_ok (tup_ok rfl t1)
  · rw [List.drop_zero] at p1
    rw [p1, Fb_l_first_bad, seq_rt ((for_ok s1).trans p2)]
/-! ### the law's likeness -/
theorem isi_of {T n : String} {d : D} {b : Bool} (h1 : tyN d = some n) (h2 : kitB n T = some b) : isiD T d = .ok (.bl b) := by unfold isiD; rw [h1]; dsimp only; rw [h2]
theorem same_ans (rs : List (List Pt)) : F_l_same 3 [ansD rs, ansD rs] = .ok (.bl true) := by
  have ka : kitB "tuple" "int" = some false := by decide +kernel
  have kb : kitB "tuple" "str" = some false := by decide +kernel
  have kc : kitB "tuple" "tuple" = some true := by decide +kernel
  have kd' : kitB "str" "int" = some false := by decide +kernel
  have ke : kitB "str" "str" = some true := by decide +kernel
  have kf : kitB "int" "int" = some true := by decide +kernel
  have kg : kitB "int" "bool" = some false := by decide +kernel
  have ss : ∀ (n : Nat) (z : Str), F_l_same (n + 1) [.str z, .str z] = .ok (.bl true) := fun n z => by
    simp [F_l_same, Fb_l_same, tgN, tgT, tgNil, tgCons, seqF, appF, stoF, asgF, parF, ownL, liftS, dOp, dUn, dVar, dC, dCall, dCons, dNil, g1, g2, intD, lenD, modD, fdivD, mulD, addD, subD, negD, absD, intsD, setF, retF, ifF, dropF, dT, asB, asI, dAnd, dOr, dNot, dIf, dAndV, dOrV, dNotV, dTup, mkTup, dLst, mkLst, dChain, Res.bind, List.set, List.getElem?_cons_zero, List.getElem?_cons_succ, List.getElem?_nil, runF, startR, List.map_cons, List.map_nil, List.replicate, List.length_cons, List.length_nil, List.cons_append, List.nil_append, List.append_nil, ordD, eqD, neD, eqB, eqFlat, isD, isN, forF, dIt, dIts, itemsL, itemsT, itemsS, items, listD, tupleD, rng1, rng2, dYes, wipeR, dLc, dNoP, dPart, dSl, slD, slL, ixD, inD, ninD, inB, dTru, truB, strD, dStr, asS, joinD, joinZ, splitD, fmtD, dJoin, dJcons, dJnil, augF, guard_true, guardS_true, and_self, and_true, true_and, isi_of (d := .str z) rfl kd', isi_of (d := .str z) rfl ke]
  have si : ∀ (n : Nat) (i : Int), F_l_same (n + 1) [.int i, .int i] = .ok (.bl true) := fun n i => by
    simp [F_l_same, Fb_l_same, tgN, tgT, tgNil, tgCons, seqF, appF, stoF, asgF, parF, ownL, liftS, dOp, dUn, dVar, dC, dCall, dCons, dNil, g1, g2, intD, lenD, modD, fdivD, mulD, addD, subD, negD, absD, intsD, setF, retF, ifF, dropF, dT, asB, asI, dAnd, dOr, dNot, dIf, dAndV, dOrV, dNotV, dTup, mkTup, dLst, mkLst, dChain, Res.bind, List.set, List.getElem?_cons_zero, List.getElem?_cons_succ, List.getElem?_nil, runF, startR, List.map_cons, List.map_nil, List.replicate, List.length_cons, List.length_nil, List.cons_append, List.nil_append, List.append_nil, ordD, eqD, neD, eqB, eqFlat, isD, isN, forF, dIt, dIts, itemsL, itemsT, itemsS, items, listD, tupleD, rng1, rng2, dYes, wipeR, dLc, dNoP, dPart, dSl, slD, slL, ixD, inD, ninD, inB, dTru, truB, strD, dStr, asS, joinD, joinZ, splitD, fmtD, dJoin, dJcons, dJnil, augF, guard_true, guardS_true, and_self, and_true, true_and, isi_of (d := .int i) rfl kf, isi_of (d := .int i) rfl kg]
  unfold ansD
  split
  · have i0 : atI [D.str "allowed"] 0 = some (.str "allowed") := rfl
    rw [F_l_same]
    refine run_rt ?_
    simp [Fb_l_same, Lp_l_same_1, tgN, tgT, tgNil, tgCons, seqF, appF, stoF, asgF, parF, ownL, liftS, dOp, dUn, dVar, dC, dCall, dCons, dNil, g1, g2, intD, lenD, modD, fdivD, mulD, addD, subD, negD, absD, intsD, setF, retF, ifF, dropF, dT, asB, asI, dAnd, dOr, dNot, dIf, dAndV, dOrV, dNotV, dTup, mkTup, dLst, mkLst, dChain, Res.bind, List.set, List.getElem?_cons_zero, List.getElem?_cons_succ, List.getElem?_nil, runF, startR, List.map_cons, List.map_nil, List.replicate, List.length_cons, List.length_nil, List.cons_append, List.nil_append, List.append_nil, ordD, eqD, neD, eqB, eqFlat, isD, isN, forF, dIt, dIts, itemsL, itemsT, itemsS, items, listD, tupleD, rng1, rng2, dYes, wipeR, dLc, dNoP, dPart, dSl, slD, slL, ixD, inD, ninD, inB, dTru, truB, strD, dStr, asS, joinD, joinZ, splitD, fmtD, dJoin, dJcons, dJnil, augF, guard_true, guardS_true, and_self, and_true, true_and, isi_of (d := .tup [.str "allowed"]) rfl ka, isi_of (d := .tup [.str "allowed"]) rfl kb, isi_of (d := .tup [.str "allowed"]) rfl kc, rngL, List.range, List.range.loop, loopF, i0, ss]
  · rename_i i k _
    have i0 : atI [D.str "bad", D.int (i : Int), D.int (k : Int)] 0 = some (.str "bad") := rfl
    have i1 : atI [D.str "bad", D.int (i : Int), D.int (k : Int)] 1 = some (.int i) := rfl
    have i2 : atI [D.str "bad", D.int (i : Int), D.int (k : Int)] 2 = some (.int k) := rfl
    rw [F_l_same]
    refine run_rt ?_
    simp [Fb_l_same, Lp_l_same_1, tgN, tgT, tgNil, tgCons, seqF, appF, stoF, asgF, parF, ownL, liftS, dOp, dUn, dVar, dC, dCall, dCons, dNil, g1, g2, intD, lenD, modD, fdivD, mulD, addD, subD, negD, absD, intsD, setF, retF, ifF, dropF, dT, asB, asI, dAnd, dOr, dNot, dIf, dAndV, dOrV, dNotV, dTup, mkTup, dLst, mkLst, dChain, Res.bind, List.set, List.getElem?_cons_zero, List.getElem?_cons_succ, List.getElem?_nil, runF, startR, List.map_cons, List.map_nil, List.replicate, List.length_cons, List.length_nil, List.cons_append, List.nil_append, List.append_nil, ordD, eqD, neD, eqB, eqFlat, isD, isN, forF, dIt, dIts, itemsL, itemsT, itemsS, items, listD, tupleD, rng1, rng2, dYes, wipeR, dLc, dNoP, dPart, dSl, slD, slL, ixD, inD, ninD, inB, dTru, truB, strD, dStr, asS, joinD, joinZ, splitD, fmtD, dJoin, dJcons, dJnil, augF, guard_true, guardS_true, and_self, and_true, true_and, isi_of (d := .tup [.str "bad", .int i, .int k]) rfl ka, isi_of (d := .tup [.str "bad", .int i, .int k]) rfl kb, isi_of (d := .tup [.str "bad", .int i, .int k]) rfl kc, rngL, List.range, List.range.loop, loopF, i0, i1, i2, ss, si]
end Lk

end S_M_fb
section S_M_ri
set_option linter.all false
set_option maxHeartbeats 2000000
set_option maxRecDepth 100000
namespace Lk
open PySem L2 Dx
/-! ### a point in a list of points -/
def pP (p : Pt) : PyData := .tuple [.int p.1, .int p.2]
theorem pts_py : ∀ ps : List Pt, toPyL (ps.map pD) = some (ps.map pP)
  | [] => rfl
  | p :: ps => by rw [List.map_cons, toPyL, pts_py ps]; rfl
theorem pts_lay : ∀ ps : List Pt, PyData.canLayAll0 (ps.map pP) = true
  | [] => rfl
  | p :: ps => by rw [List.map_cons, PyData.canLayAll0, pts_lay ps]; rfl
theorem pts_deep : ∀ ps : List Pt, PyData.depthAll (ps.map pP) ≤ 2
  | [] => by decide
  | p :: ps => by
    have := pts_deep ps
    rw [List.map_cons, PyData.depthAll]
    have e : PyData.depth (pP p) ≤ 2 := by simp [pP, PyData.depth, PyData.depthAll]
    omega
theorem shaped_pts (ps : List Pt) : SeqAt.shaped (.list (ps.map pP)) = true := by
  unfold SeqAt.shaped
  rw [show PyData.canLay0 (.list (ps.map pP)) = PyData.canLayAll0 (ps.map pP) from by rw [PyData.canLay0], pts_lay]
  have := pts_deep ps
  simp [PyData.depth]
  omega
theorem shaped_pt (p : Pt) : SeqAt.shaped (pP p) = true := by
  unfold SeqAt.shaped pP
  simp [PyData.canLay0, PyData.canLayAll0, PyData.depth, PyData.depthAll]
theorem eqv_pt (p q : Pt) : PyData.eqv (pP p) (pP q) = decide (p = q) := by
  unfold pP
  simp [PyData.eqv, PyData.eqvAll, Prod.ext_iff]
  rfl
theorem in_pts (p : Pt) (ps : List Pt) : inD (pD p) (.lst (ps.map pD)) = .ok (.bl (decide (p ∈ ps))) := by
  have h1 : inB (pD p) (.lst (ps.map pD)) = .ok (decide (p ∈ ps)) := by
    show inLst (pD p) (ps.map pD) = _
    unfold inLst
    rw [show inFlat (pD p) (ps.map pD) = none from rfl]
    show inDeep (pD p) (ps.map pD) = _
    unfold inDeep
    rw [show toPy (pD p) = some (pP p) from rfl, pts_py]
    dsimp only
    rw [if_pos ⟨shaped_pt p, shaped_pts ps⟩]
    congr 1
    rw [List.any_map]
    have : ((fun z => PyData.eqv z (pP p)) ∘ pP) = fun q => decide (q = p) := by funext q; exact eqv_pt q p
    rw [this]
    by_cases h : p ∈ ps
    · simp [h]
    · have h' : ∀ x ∈ ps, ¬ x = p := fun x hx e => h (e ▸ hx)
      rw [decide_eq_false h]
      refine List.any_eq_false.mpr fun x hx => ?_
      simpa using h' x hx
  unfold inD
  rw [h1]
  rfl
theorem lc_filt {t : D → Rho → Res Rho} {tt : Rho → Res Bool} {fe : Rho → Res D} {rw : Rho} (f : Pt → Bool) : ∀ ps : List Pt, (∀ p ∈ ps, ∃ r1, t (pD p) rw = .ok r1 ∧ tt r1 = .ok (f p) ∧ fe r1 = .ok (pD p)) → lcLoop t tt fe rw (ps.map pD) = .ok ((ps.filter f).map pD)
  | [], _ => rfl
  | p :: ps, h => by
    obtain ⟨r1, h1, h2, h3⟩ := h p (by simp)
    rw [List.map_cons, lcLoop, h1]
    dsimp only
    rw [h2]
    have ih := lc_filt f ps fun x hx => h x (by simp [hx])
    cases hf : f p with
    | true =>
      dsimp only
      rw [h3, ih]
      simp [hf]
    | false =>
      dsimp only
      rw [ih]
      simp [hf]
/-! ### rings -/
def Ch (acc : List Pt) : Prop := ∀ j, j + 1 < acc.length → isE (acc.getD j (0, 0)) (acc.getD (j + 1) (0, 0)) = true
theorem Ch.snoc {pre : List Pt} {q r : Pt} (h : Ch (pre ++ [q])) (he : isE q r = true) : Ch (pre ++ [q] ++ [r]) := fun j hj => by
  simp only [List.length_append, List.length_cons, List.length_nil] at hj
  by_cases hlt : j + 1 < (pre ++ [q]).length
  · have := h j hlt
    rw [List.getD_eq_getElem?_getD, List.getD_eq_getElem?_getD] at this ⊢
    rw [List.getElem?_append_left (by omega), List.getElem?_append_left hlt]
    exact this
  · simp only [List.length_append, List.length_cons, List.length_nil] at hlt
    have hj' : j = pre.length := by omega
    subst hj'
    rw [List.getD_eq_getElem?_getD, List.getD_eq_getElem?_getD, List.getElem?_append_left (by simp), List.getElem?_append_right (by simp), List.getElem?_append_right (by simp)]
    simpa using he
theorem scan1_none : ∀ (es : List (Pt × Pt)) (n : Nat), (∀ e ∈ es, isE e.1 e.2 = true) → scan1 n es = none
  | [], _, _ => rfl
  | e :: es, n, h => by
    rw [scan1, if_pos (h e (by simp))]
    exact scan1_none es (n + 1) fun x hx => h x (by simp [hx])
def Good (ring : List Pt) : Prop := scan1 0 (prs ring) = none ∧ (∀ p ∈ ring, Gd p) ∧ 0 < ring.length ∧ ring.length < 100
theorem good_of {acc : List Pt} (h : Ch acc) (hl : 0 < acc.length) (hc : isE (acc.getD (acc.length - 1) (0, 0)) (acc.getD 0 (0, 0)) = true) : scan1 0 (prs acc) = none := by
  refine scan1_none _ _ fun e he => ?_
  obtain ⟨k, hk, rfl⟩ := List.mem_map.mp he
  have hk := List.mem_range.mp hk
  unfold nb
  by_cases hlt : k + 1 < acc.length
  · rw [Nat.mod_eq_of_lt hlt]
    exact h k hlt
  · have : k + 1 = acc.length := by omega
    rw [this, Nat.mod_self]
    have e2 : k = acc.length - 1 := by omega
    rw [e2]
    exact hc
theorem row_ix {R : List Int} {k : Nat} {i : Int} {r : Rho} {j : Nat} {f : Rho → Res D} (hr : r[j]? = some (some (iL R))) (hf : f r = .ok (.int i)) (hi : i = (k : Int)) (ha : atI (R.map D.int) (k : Int) = some (.int (R.getD k 0))) : dOp ixD (dVar j) f r = .ok (.int (R.getD k 0)) := by
  rw [op_ok (d1 := iL R) (d2 := .int i) (dVar_ok hr) hf, hi]
  exact ix_lst ha
theorem pick_of {opts : List Pt} (hne : opts ≠ []) (v : Int) : ∃ q, q ∈ opts ∧ ixD (.lst (opts.map pD)) (.int (v % (opts.length : Int))) = .ok (pD q) := by
  have hl : 0 < opts.length := by cases opts with | nil => exact absurd rfl hne | cons _ _ => simp
  have m0 := Int.emod_nonneg v (show (opts.length : Int) ≠ 0 by omega)
  have m1 := Int.emod_lt_of_pos v (show (0 : Int) < (opts.length : Int) by omega)
  obtain ⟨k, hk⟩ : ∃ k : Nat, v % (opts.length : Int) = (k : Int) := ⟨(v % (opts.length : Int)).toNat, by omega⟩
  have hkl : k < opts.length := by omega
  refine ⟨opts[k], List.getElem_mem hkl, ?_⟩
  rw [hk]
  exact ix_lst (atI_nat (by rw [List.getElem?_map, List.getElem?_eq_getElem hkl]; rfl))
theorem cut8 (opts : List Pt) : cutL (opts.map pD) none (some 8) = (opts.take 8).map pD := by
  unfold cutL
  rw [HT.sIx_none, show (some 8 : Option Int) = some ((8 : Nat) : Int) from rfl, HT.sIx_nat, List.drop_zero, Nat.sub_zero, List.map_take]
  by_cases h : 8 ≤ (opts.map pD).length
  · rw [Nat.min_eq_left h]
  · rw [Nat.min_eq_right (by omega), List.take_of_length_le (Nat.le_refl _), List.take_of_length_le (by omega)]
theorem ring_step (c : D) (R : List Int) (N k : Nat) (pre : List Pt) (q p0 : Pt) (x5 : Option D) (hp0 : Gd p0) (hq : Gd q) (hN : N = (R.getD 0 0).toNat + 2) (h00 : 0 ≤ R.getD 0 0) (hk : k < N) (hlen : pre.length < 1000)
    (r0 : atI (R.map D.int) ((0 : Nat) : Int) = some (.int (R.getD 0 0))) (r3 : atI (R.map D.int) ((3 : Nat) : Int) = some (.int (R.getD 3 0))) (rk : atI (R.map D.int) ((k + 4 : Nat) : Int) = some (.int (R.getD (k + 4) 0))) :
    ∃ s y5, Lp_l_ring_1 [some c, some (iL R), some (.lst ((pre ++ [q]).map pD)), some (.lst ((reachL p0).map pD)), some (.int k), x5, none] = .nx [some c, some (iL R), some (.lst ((pre ++ [q] ++ [s]).map pD)), some (.lst ((reachL p0).map pD)), some (.int k), y5, none] ∧ s ∈ reachL q ∧ (k + 1 = N → s ∈ reachL p0) := by
  have s1 : setF 5 (dCall F_l_reach (dCons (dOp ixD (dVar 2) (dUn negD (dC (.int 1)))) dNil)) [some c, some (iL R), some (.lst ((pre ++ [q]).map pD)), some (.lst ((reachL p0).map pD)), some (.int k), x5, none] = .nx [some c, some (iL R), some (.lst ((pre ++ [q]).map pD)), some (.lst ((reachL p0).map pD)), some (.int k), some (.lst ((reachL q).map pD)), none] := by
    refine set_ok ((call1_ok (d1 := pD q) ?_).trans (reach_eq q))
    rw [op_ok (d1 := .lst ((pre ++ [q]).map pD)) (d2 := .int (-1)) rfl rfl]
    refine ix_lst ?_
    rw [List.map_append]
    exact atI_last _ _
  have c1 : dT (dOp eqD (dVar 4) (dOp addD (dOp ixD (dVar 1) (dC (.int 0))) (dC (.int 1)))) [some c, some (iL R), some (.lst ((pre ++ [q]).map pD)), some (.lst ((reachL p0).map pD)), some (.int k), some (.lst ((reachL q).map pD)), none] = .ok (decide (k + 1 = N)) := by
    refine T_ok ?_
    rw [op_ok (d1 := .int k) (d2 := .int (R.getD 0 0 + 1)) rfl ((op_ok (d2 := .int 1) (row_ix (k := 0) (i := 0) rfl rfl rfl r0) rfl).trans rfl)]
    show Res.ok (D.bl (decide ((k : Int) = R.getD 0 0 + 1))) = _
    have : ((k : Int) = R.getD 0 0 + 1) ↔ (k + 1 = N) := by omega
    rw [decide_eq_decide.mpr this]
  have fin : ∀ opts : List Pt, opts ≠ [] → (∀ s ∈ opts, s ∈ reachL q ∧ (k + 1 = N → s ∈ reachL p0)) → ∃ s y5, (seqF (ifF (dT (dOp eqD (dOp ixD (dVar 1) (dC (.int 3))) (dC (.int 0)))) (setF 5 (dSl slD (dVar 5) dNoP (dPart (dC (.int 8))))) .nx) (appF 2 (dOp ixD (dVar 5) (dOp modD (dCall (g1 intD) (dCons (dOp ixD (dVar 1) (dOp addD (dVar 4) (dC (.int 4)))) dNil)) (dCall (g1 lenD) (dCons (dVar 5) dNil)))))) [some c, some (iL R), some (.lst ((pre ++ [q]).map pD)), some (.lst ((reachL p0).map pD)), some (.int k), some (.lst (opts.map pD)), none] = .nx [some c, some (iL R), some (.lst ((pre ++ [q] ++ [s]).map pD)), some (.lst ((reachL p0).map pD)), some (.int k), y5, none] ∧ s ∈ reachL q ∧ (k + 1 = N → s ∈ reachL p0) := by
    intro opts hne hall
    have lst : ∀ opts : List Pt, opts ≠ [] → (∀ s ∈ opts, s ∈ reachL q ∧ (k + 1 = N → s ∈ reachL p0)) → ∃ s, appF 2 (dOp ixD (dVar 5) (dOp modD (dCall (g1 intD) (dCons (dOp ixD (dVar 1) (dOp addD (dVar 4) (dC (.int 4)))) dNil)) (dCall (g1 lenD) (dCons (dVar 5) dNil)))) [some c, some (iL R), some (.lst ((pre ++ [q]).map pD)), some (.lst ((reachL p0).map pD)), some (.int k), some (.lst (opts.map pD)), none] = .nx [some c, some (iL R), some (.lst ((pre ++ [q] ++ [s]).map pD)), some (.lst ((reachL p0).map pD)), some (.int k), some (.lst (opts.map pD)), none] ∧ s ∈ reachL q ∧ (k + 1 = N → s ∈ reachL p0) := by
      intro opts hne hall
      obtain ⟨s, hs, hx⟩ := pick_of hne (R.getD (k + 4) 0)
      have hl : 0 < opts.length := by cases opts with | nil => exact absurd rfl hne | cons _ _ => simp
      refine ⟨s, ?_, hall s hs⟩
      rw [app_ok (ds := (pre ++ [q]).map pD) (d := pD s) rfl ?_ (Nat.lt_of_lt_of_le (by simp; omega) sz5)]
      · simp
      · rw [op_ok (d1 := .lst (opts.map pD)) (d2 := .int (R.getD (k + 4) 0 % (opts.length : Int))) rfl, hx]
        rw [op_ok (d1 := .int (R.getD (k + 4) 0)) (d2 := .int (opts.length : Int)) ((call1_ok (row_ix (k := k + 4) (i := (k : Int) + 4) rfl ((op_ok (d1 := .int k) (d2 := .int 4) rfl rfl).trans rfl) (by omega) rk)).trans rfl) ((call1_ok (d1 := .lst (opts.map pD)) rfl).trans (by show lenD (.lst (opts.map pD)) = _; simp [lenD]))]
        show guard _ _ = _
        rw [guard_pos (by omega)]
    have c3 : dT (dOp eqD (dOp ixD (dVar 1) (dC (.int 3))) (dC (.int 0))) [some c, some (iL R), some (.lst ((pre ++ [q]).map pD)), some (.lst ((reachL p0).map pD)), some (.int k), some (.lst (opts.map pD)), none] = .ok (decide (R.getD 3 0 = 0)) := by
      refine T_ok ?_
      rw [op_ok (d2 := .int 0) (row_ix (k := 3) (i := 3) rfl rfl rfl r3) rfl]
      rfl
    by_cases h3 : R.getD 3 0 = 0
    · obtain ⟨s, q1, q2⟩ := lst (opts.take 8) (by cases opts with | nil => exact absurd rfl hne | cons _ _ => simp) fun s hs => hall s (List.mem_of_mem_take hs)
      refine ⟨s, some (.lst ((opts.take 8).map pD)), ?_, q2⟩
      rw [seq_nx ((if_t (c3.trans (by rw [decide_eq_true h3]))).trans (set_ok (d := .lst ((opts.take 8).map pD)) ?_))]
      · exact q1
      · show Res.ok (D.lst (cutL (opts.map pD) none (some 8))) = _
        rw [cut8]
    · obtain ⟨s, q1, q2⟩ := lst opts hne hall
      exact ⟨s, some (.lst (opts.map pD)), by rw [seq_nx (if_f (c3.trans (by rw [decide_eq_false h3])))]; exact q1, q2⟩
  rw [Lp_l_ring_1, seq_nx s1]
  by_cases hl : k + 1 = N
  · have c2 : setF 5 (dLc (dIt itemsL (dVar 5)) (tgN 6) (dT (dOp inD (dVar 6) (dVar 3))) (dVar 6) [6]) [some c, some (iL R), some (.lst ((pre ++ [q]).map pD)), some (.lst ((reachL p0).map pD)), some (.int k), some (.lst ((reachL q).map pD)), none] = .nx [some c, some (iL R), some (.lst ((pre ++ [q]).map pD)), some (.lst ((reachL p0).map pD)), some (.int k), some (.lst (((reachL q).filter fun p => decide (p ∈ reachL p0)).map pD)), none] := by
      refine set_ok (lcd_ok (ds := (reachL q).map pD) rfl (by have := reachL_len q; rw [List.length_map]; exact Nat.le_trans (by omega) sz5) ?_)
      refine lc_filt _ _ fun p hp => ⟨_, rfl, T_ok ?_, rfl⟩
      rw [op_ok (d1 := pD p) (d2 := .lst ((reachL p0).map pD)) rfl rfl]
      exact in_pts p _
    rw [seq_nx ((if_t (c1.trans (by simp [hl]))).trans c2)]
    refine fin _ ?_ fun s hs => ?_
    · obtain ⟨r, g1, g2⟩ := reach_both hq hp0
      intro z
      have : r ∈ (reachL q).filter fun p => decide (p ∈ reachL p0) := List.mem_filter.mpr ⟨g1, by simpa using g2⟩
      rw [z] at this; cases this
    · have := List.mem_filter.mp hs
      exact ⟨this.1, fun _ => by simpa using this.2⟩
  · rw [seq_nx (if_f (c1.trans (by simp [hl])))]
    exact fin _ (reach_ne hq) fun s hs => ⟨hs, fun z => absurd z hl⟩
end Lk

end S_M_ri
section S_M_rl
set_option linter.all false
set_option maxHeartbeats 2000000
set_option maxRecDepth 100000
namespace Lk
open PySem L2 Dx
theorem ring_loop (c : D) (R : List Int) (N : Nat) (p0 : Pt) (hp0 : Gd p0) (hN : N = (R.getD 0 0).toNat + 2) (h00 : 0 ≤ R.getD 0 0) (hN2 : N ≤ 15)
    (r0 : atI (R.map D.int) ((0 : Nat) : Int) = some (.int (R.getD 0 0))) (r3 : atI (R.map D.int) ((3 : Nat) : Int) = some (.int (R.getD 3 0))) (rk : ∀ k, k < 15 → atI (R.map D.int) ((k + 4 : Nat) : Int) = some (.int (R.getD (k + 4) 0))) :
    ∀ (m k : Nat) (pre : List Pt) (q : Pt) (x4 x5 : Option D), k + m = N → pre.length = k → (∀ p ∈ pre ++ [q], Gd p) → Ch (pre ++ [q]) → (pre ++ [q]).getD 0 (0, 0) = p0 → (m = 0 → q ∈ reachL p0) →
    ∃ pre' q' y4 y5, loopF (tgN 4) Lp_l_ring_1 ((List.range' k m).map fun (i : Nat) => D.int (i : Int)) [some c, some (iL R), some (.lst ((pre ++ [q]).map pD)), some (.lst ((reachL p0).map pD)), x4, x5, none] = .nx [some c, some (iL R), some (.lst ((pre' ++ [q']).map pD)), some (.lst ((reachL p0).map pD)), y4, y5, none] ∧
      pre'.length = N ∧ (∀ p ∈ pre' ++ [q'], Gd p) ∧ Ch (pre' ++ [q']) ∧ (pre' ++ [q']).getD 0 (0, 0) = p0 ∧ q' ∈ reachL p0
  | 0, k, pre, q, x4, x5, hk, hl, hg, hc, h0, hr => ⟨pre, q, x4, x5, rfl, by omega, hg, hc, h0, hr rfl⟩
  | m + 1, k, pre, q, x4, x5, hk, hl, hg, hc, h0, hr => by
    obtain ⟨s, y5, e1, e2, e3⟩ := ring_step c R N k pre q p0 x5 hp0 (hg q (by simp)) hN h00 (by omega) (by omega) r0 r3 (rk k (by omega))
    have he := reach_edge e2
    obtain ⟨pre', q', z4, z5, g1, g2⟩ := ring_loop c R N p0 hp0 hN h00 hN2 r0 r3 rk m (k + 1) (pre ++ [q]) s (some (.int k)) y5 (by omega) (by simp [hl]) (fun p hp => by
      rcases List.mem_append.mp hp with hp | hp
      · exact hg p hp
      · simp at hp; subst hp; exact he.2) (hc.snoc he.1) (by
      rw [← h0, List.getD_eq_getElem?_getD, List.getD_eq_getElem?_getD, List.getElem?_append_left (by simp)]) (fun hm => e3 (by omega))
    refine ⟨pre', q', z4, z5, ?_, g2⟩
    rw [List.range'_succ, List.map_cons, loop_nx (r1 := [some c, some (iL R), some (.lst ((pre ++ [q]).map pD)), some (.lst ((reachL p0).map pD)), some (.int k), x5, none]) rfl e1]
    exact g1
def ringLim : List Int := [14, 13, 13, 3, 48, 48, 48, 48, 48, 48, 48, 48, 48, 48, 48, 48, 48, 48, 48]
theorem ring_eq (c : Int) : ∃ ring, F_l_ring [.int c] = .ok (rD ring) ∧ Good ring := by
  have hlp : ∀ l ∈ ringLim, 0 < l ∧ l < 4611686018427387904 := by decide
  have hp : ∀ l ∈ ringLim, 0 < l := fun l h => (hlp l h).1
  have hrow := row_eq c ringLim hlp (by decide)
  have r0 := row_at (c := c) (k := 0) hp rfl
  have r1 := row_at (c := c) (k := 1) hp rfl
  have r2 := row_at (c := c) (k := 2) hp rfl
  have r3 := row_at (c := c) (k := 3) hp rfl
  have rk : ∀ k, k < 15 → atI ((rowL c ringLim).map D.int) ((k + 4 : Nat) : Int) = some (.int ((rowL c ringLim).getD (k + 4) 0)) := fun k hk => by
    have h1 : ∃ l, ringLim[k + 4]? = some l := ⟨ringLim[k + 4]'(by simp [ringLim]; omega), List.getElem?_eq_getElem _⟩
    obtain ⟨l, h1⟩ := h1
    exact (row_at (c := c) hp h1).1
  generalize rowL c ringLim = R at hrow r0 r1 r2 r3 rk
  have t1 : (1 : Nat) ≤ sizeLine := by decide
  have t2 : (2 : Nat) ≤ sizeLine := by decide
  have t4 : (4 : Nat) ≤ sizeLine := by decide
  have t15 : (15 : Nat) ≤ sizeLine := by decide
  have t19 : (19 : Nat) ≤ sizeLine := by decide
  generalize hp0 : ((R.getD 1 0, R.getD 2 0) : Pt) = p0
  have g0 : Gd p0 := by rw [← hp0]; unfold Gd; simp only []; omega
  obtain ⟨pre', q', y4, y5, e1, e2, e3, e4, e5, e6⟩ := ring_loop (.int c) R ((R.getD 0 0).toNat + 2) p0 g0 rfl r0.2.1 (by omega) r0.1 r3.1 rk ((R.getD 0 0).toNat + 2) 0 [] p0 none none (by omega) rfl (by simpa using g0) (fun j hj => by simp at hj) (by simp) (by omega)
  refine ⟨pre' ++ [q'], run_rt ?_, ?_, e3, by simp, by simp; omega⟩
  · show Fb_l_ring [some (.int c), none, none, none, none, none, none] = _
    have a1 : (dOp addD (dLst (dCons (dC (.int 14)) (dCons (dC (.int 13)) (dCons (dC (.int 13)) (dCons (dC (.int 3)) dNil))))) (dOp mulD (dLst (dCons (dC (.int 48)) dNil)) (dC (.int 15)))) [some (.int c), none, none, none, none, none, none] = .ok (iL ringLim) := by
      simp [tgN, tgT, tgNil, tgCons, seqF, appF, stoF, asgF, parF, ownL, liftS, dOp, dUn, dVar, dC, dCall, dCons, dNil, g1, g2, intD, lenD, modD, fdivD, mulD, addD, subD, negD, absD, intsD, setF, retF, ifF, dropF, dT, asB, asI, dAnd, dOr, dNot, dIf, dAndV, dOrV, dNotV, dTup, mkTup, dLst, mkLst, dChain, Res.bind, List.set, List.getElem?_cons_zero, List.getElem?_cons_succ, List.getElem?_nil, runF, startR, List.map_cons, List.map_nil, List.replicate, List.length_cons, List.length_nil, List.cons_append, List.nil_append, List.append_nil, ordD, eqD, neD, eqB, eqFlat, isD, isN, forF, dIt, dIts, itemsL, itemsT, itemsS, items, listD, tupleD, rng1, rng2, dYes, wipeR, dLc, dNoP, dPart, dSl, slD, slL, ixD, inD, ninD, inB, dTru, truB, strD, dStr, asS, joinD, joinZ, splitD, fmtD, dJoin, dJcons, dJnil, augF, guard_true, guardS_true, and_self, and_true, true_and, t1, t4, t15, t19, ringLim]
    have s1 : setF 1 (dCall F_l_row (dCons (dVar 0) (dCons (dOp addD (dLst (dCons (dC (.int 14)) (dCons (dC (.int 13)) (dCons (dC (.int 13)) (dCons (dC (.int 3)) dNil))))) (dOp mulD (dLst (dCons (dC (.int 48)) dNil)) (dC (.int 15)))) dNil))) [some (.int c), none, none, none, none, none, none] = .nx [some (.int c), some (iL R), none, none, none, none, none] := set_ok ((call2_ok (d1 := .int c) rfl a1).trans hrow)
    have s2 : setF 2 (dLst (dCons (dTup (dCons (dOp ixD (dVar 1) (dC (.int 1))) (dCons (dOp ixD (dVar 1) (dC (.int 2))) dNil))) dNil)) [some (.int c), some (iL R), none, none, none, none, none] = .nx [some (.int c), some (iL R), some (.lst (([] ++ [p0]).map pD)), none, none, none, none] := by
      refine set_ok ?_
      have q1 := tup_ok (r := [some (.int c), some (iL R), none, none, none, none, none]) (cons_ok (row_ix (j := 1) (k := 1) (i := 1) (f := dC (.int 1)) rfl rfl rfl r1.1) (cons_ok (row_ix (j := 1) (k := 2) (i := 2) (f := dC (.int 2)) rfl rfl rfl r2.1) (rfl : dNil _ = _))) t2
      unfold dLst
      rw [cons_ok q1 rfl]
      show mkLst _ = _
      unfold mkLst
      rw [guard_pos (by exact t1), ← hp0]
      rfl
    have s3 : setF 3 (dCall F_l_reach (dCons (dOp ixD (dVar 2) (dC (.int 0))) dNil)) [some (.int c), some (iL R), some (.lst (([] ++ [p0]).map pD)), none, none, none, none] = .nx [some (.int c), some (iL R), some (.lst (([] ++ [p0]).map pD)), some (.lst ((reachL p0).map pD)), none, none, none] :=
      set_ok ((call1_ok (d1 := pD p0) ((op_ok (d1 := .lst [pD p0]) (d2 := .int 0) rfl rfl).trans (ix_lst rfl))).trans (reach_eq p0))
    have s4 : dIts rng1 (dCons (dOp addD (dOp ixD (dVar 1) (dC (.int 0))) (dC (.int 2))) dNil) [some (.int c), some (iL R), some (.lst (([] ++ [p0]).map pD)), some (.lst ((reachL p0).map pD)), none, none, none] = .ok ((List.range' 0 ((R.getD 0 0).toNat + 2)).map fun (i : Nat) => D.int (i : Int)) := by
      refine rng1_ok (by omega) ((op_ok (d1 := .int (R.getD 0 0)) (d2 := .int 2) (row_ix (k := 0) (i := 0) rfl rfl rfl r0.1) rfl).trans ?_)
      show Res.ok (D.int (R.getD 0 0 + 2)) = _
      congr 2
      have := r0.2.1
      omega
    rw [Fb_l_ring, seq_nx s1, seq_nx s2, seq_nx s3, seq_nx ((for_ok s4).trans e1)]
    exact ret_ok ((call1_ok (d1 := .lst ((pre' ++ [q']).map pD)) rfl).trans rfl)
  · refine good_of e4 (by simp) ?_
    have h2 := isE_symm (reach_edge e6).1
    rw [e5, List.getD_eq_getElem?_getD, List.getElem?_append_right (by simp)]
    simpa using h2
end Lk

end S_M_rl
section S_M_sp
set_option linter.all false
set_option maxHeartbeats 2000000
set_option maxRecDepth 100000
namespace Lk
open PySem L2 Dx
def rows (rs : List (List Pt)) : List (List D) := rs.map fun ring => ring.map pD
def sp (L : D) (R : List Int) (rs : List (List Pt)) (x3 x4 x5 x6 x7 x8 : Option D) : Rho := [some L, some (iL R), some (.st rs.length (rows rs ++ [ownRow rs.length])), x3, x4, x5, x6, x7, x8]
section
variable {L : D} {R : List Int} {rs : List (List Pt)} {x3 x4 x5 x6 x7 x8 : Option D}
theorem sp_row {j : Nat} (h : j < rs.length) : rowAt 2 (sp L R rs x3 x4 x5 x6 x7 x8) j = .ok ((rs.getD j []).map pD) := by
  unfold rowAt
  have e : (rowsR 2 (sp L R rs x3 x4 x5 x6 x7 x8))[j]? = some ((rs.getD j []).map pD) := by
    show (rows rs ++ [ownRow rs.length])[j]? = _
    rw [List.getElem?_append_left (by simp [rows]; exact h)]
    unfold rows
    rw [List.getElem?_map, List.getElem?_eq_getElem h, List.getD_eq_getElem?_getD, List.getElem?_eq_getElem h]
    rfl
  rw [e]
theorem sp_root : rowAt 2 (sp L R rs x3 x4 x5 x6 x7 x8) rs.length = .ok (ownRow rs.length) := by
  unfold rowAt
  have e : (rowsR 2 (sp L R rs x3 x4 x5 x6 x7 x8))[rs.length]? = some (ownRow rs.length) := by
    show (rows rs ++ [ownRow rs.length])[rs.length]? = _
    rw [List.getElem?_append_right (by simp [rows])]
    simp [rows]
  rw [e]
theorem sp_len : wLen 2 (wRoot 2) (sp L R rs x3 x4 x5 x6 x7 x8) = .ok (.int (rs.length : Int)) := by
  show Res.bind (rowAt 2 (sp L R rs x3 x4 x5 x6 x7 x8) rs.length) _ = _
  rw [sp_root]
  show Res.ok (D.int ((ownRow rs.length).length : Int)) = _
  simp [ownRow]
theorem sp_at {fi : Rho → Res D} {j : Nat} (h : j < rs.length) (hf : fi (sp L R rs x3 x4 x5 x6 x7 x8) = .ok (.int (j : Int))) : wAt 2 (wRoot 2) fi (sp L R rs x3 x4 x5 x6 x7 x8) = .ok j := by
  show Res.bind (fi (sp L R rs x3 x4 x5 x6 x7 x8)) _ = _
  rw [hf]
  show Res.bind (rowAt 2 (sp L R rs x3 x4 x5 x6 x7 x8) rs.length) _ = _
  rw [sp_root]
  have e : atI (ownRow rs.length) (j : Int) = some (.own j) := atI_nat (by unfold ownRow; rw [List.getElem?_map, List.getElem?_range h]; rfl)
  show (match atI (ownRow rs.length) (j : Int) with | some (.own k') => Res.ok k' | _ => .bad) = _
  rw [e]
theorem pts_plain (ps : List Pt) : (ps.map pD).all (fun d => !isOwn d) = true := List.all_eq_true.mpr fun d hd => by
  obtain ⟨p, _, rfl⟩ := List.mem_map.mp hd
  rfl
theorem sp_wrow {j : Nat} (h : j < rs.length) : wRow 2 (wVar 3) (sp L R rs (some (.own j)) x4 x5 x6 x7 x8) = .ok (.lst ((rs.getD j []).map pD)) := by
  show Res.bind (rowAt 2 (sp L R rs (some (.own j)) x4 x5 x6 x7 x8) j) _ = _
  rw [sp_row h]
  show (if ((rs.getD j []).map pD).all (fun d => !isOwn d) = true then Res.ok (D.lst ((rs.getD j []).map pD)) else .bad) = _
  rw [if_pos (pts_plain _)]
theorem sp_wlen {j : Nat} (h : j < rs.length) : dCall (g1 lenD) (dCons (wRow 2 (wVar 3)) dNil) (sp L R rs (some (.own j)) x4 x5 x6 x7 x8) = .ok (.int ((rs.getD j []).length : Int)) := by
  rw [call1_ok (sp_wrow h)]
  show lenD (.lst ((rs.getD j []).map pD)) = _
  simp [lenD]
theorem rows_set (j : Nat) (ring : List Pt) : rows (rs.set j ring) = (rows rs).set j (ring.map pD) := by
  unfold rows
  rw [List.map_set]
theorem sp_sto {j a : Nat} {q : Pt} {fe : Rho → Res D} (h : j < rs.length) (ha : a < (rs.getD j []).length) (hf : fe (sp L R rs (some (.own j)) x4 (some (.int (a : Int))) x6 x7 x8) = .ok (pD q)) :
    wSto 2 (wVar 3) (dVar 5) fe (sp L R rs (some (.own j)) x4 (some (.int (a : Int))) x6 x7 x8) = .nx (sp L R (rs.set j ((rs.getD j []).set a q)) (some (.own j)) x4 (some (.int (a : Int))) x6 x7 x8) := by
  unfold wSto
  rw [hf]
  show liftS _ (rowAt 2 (sp L R rs (some (.own j)) x4 (some (.int (a : Int))) x6 x7 x8) j) _ = _
  rw [sp_row h]
  have e : ixN ((rs.getD j []).map pD).length (a : Int) = some a := by
    rw [List.length_map]
    unfold ixN
    rw [if_pos (by omega), if_pos (by omega)]; simp
  show (match ixN ((rs.getD j []).map pD).length (a : Int) with | some n => if isOwn (pD q) = true then SR.bad else .nx (putRow 2 _ j (((rs.getD j []).map pD).set n (pD q))) | none => .bad) = _
  rw [e]
  show SR.nx (sp L R rs (some (.own j)) x4 (some (.int (a : Int))) x6 x7 x8 |>.set 2 (some (.st rs.length ((rows rs ++ [ownRow rs.length]).set j (((rs.getD j []).map pD).set a (pD q)))))) = _
  unfold sp
  rw [rows_set, List.length_set, List.set_append_left _ _ (by simp [rows]; exact h), List.map_set]
  rfl
end
def Fit (rs : List (List Pt)) : Prop := ∀ ring ∈ rs, (∀ p ∈ ring, Gd p) ∧ 0 < ring.length ∧ ring.length < 100
theorem Fit.set {rs : List (List Pt)} {j a : Nat} {q : Pt} (h : Fit rs) (hj : j < rs.length) (hq : Gd q) : Fit (rs.set j ((rs.getD j []).set a q)) := fun ring hr => by
  have hm : rs.getD j [] ∈ rs := by rw [List.getD_eq_getElem?_getD, List.getElem?_eq_getElem hj]; exact List.getElem_mem hj
  rcases List.mem_or_eq_of_mem_set hr with hr | rfl
  · exact h ring hr
  · obtain ⟨h1, h2, h3⟩ := h _ hm
    refine ⟨fun p hp => ?_, by rw [List.length_set]; exact h2, by rw [List.length_set]; exact h3⟩
    rcases List.mem_or_eq_of_mem_set hp with hp | rfl
    · exact h1 p hp
    · exact hq
theorem row_pt {ring : List Pt} {k : Int} {i : Nat} (hk : ixN ring.length k = some i) (hi : i < ring.length) : ixD (.lst (ring.map pD)) (.int k) = .ok (pD (ring.getD i (0, 0))) := by
  refine ix_lst ?_
  unfold atI
  rw [List.length_map, hk]
  show (ring.map pD)[i]? = _
  rw [List.getElem?_map, List.getElem?_eq_getElem hi, List.getD_eq_getElem?_getD, List.getElem?_eq_getElem hi]
  rfl
theorem getD_mem {ring : List Pt} {i : Nat} (hi : i < ring.length) : ring.getD i (0, 0) ∈ ring := by
  rw [List.getD_eq_getElem?_getD, List.getElem?_eq_getElem hi]; exact List.getElem_mem hi
theorem ixN_nat {n i : Nat} (h : i < n) : ixN n (i : Int) = some i := by
  unfold ixN
  rw [if_pos (by omega), if_pos (by omega)]; simp
end Lk

end S_M_sp
section S_M_sq
set_option linter.all false
set_option maxHeartbeats 2000000
set_option maxRecDepth 100000
namespace Lk
open PySem L2 Dx
theorem spoil_step (L : D) (R : List Int) (rs : List (List Pt)) (k : Nat) (hk : k < 3) (hf : Fit rs) (x3 x5 x6 x7 x8 : Option D)
    (r2 : atI (R.map D.int) ((5 * k + 2 : Nat) : Int) = some (.int (R.getD (5 * k + 2) 0)) ∧ 0 ≤ R.getD (5 * k + 2) 0)
    (r3 : atI (R.map D.int) ((5 * k + 3 : Nat) : Int) = some (.int (R.getD (5 * k + 3) 0)) ∧ 0 ≤ R.getD (5 * k + 3) 0)
    (r4 : atI (R.map D.int) ((5 * k + 4 : Nat) : Int) = some (.int (R.getD (5 * k + 4) 0)))
    (r5 : atI (R.map D.int) ((5 * k + 5 : Nat) : Int) = some (.int (R.getD (5 * k + 5) 0)) ∧ 0 ≤ R.getD (5 * k + 5) 0 ∧ R.getD (5 * k + 5) 0 < 13)
    (r6 : atI (R.map D.int) ((5 * k + 6 : Nat) : Int) = some (.int (R.getD (5 * k + 6) 0)) ∧ 0 ≤ R.getD (5 * k + 6) 0 ∧ R.getD (5 * k + 6) 0 < 13) :
    ∃ rs' y3 y5 y6 y7 y8, Lp_l_spoilt_1 (sp L R rs x3 (some (.int (k : Int))) x5 x6 x7 x8) = .nx (sp L R rs' y3 (some (.int (k : Int))) y5 y6 y7 y8) ∧ Fit rs' ∧ rs'.length = rs.length := by
  have s5 : smallI (5 : Int) := small_of (by omega) (by omega)
  have s13 : smallI (13 : Int) := small_of (by omega) (by omega)
  have t2 : (2 : Nat) ≤ sizeLine := by decide
  have ixo : ∀ (c : Nat) (y3 y5 y6 y7 y8 : Option D) (ci : Int), ci = (c : Int) → (dOp addD (dOp mulD (dC (.int 5)) (dVar 4)) (dC (.int ci))) (sp L R rs y3 (some (.int (k : Int))) y5 y6 y7 y8) = .ok (.int ((5 * k + c : Nat) : Int)) := fun c y3 y5 y6 y7 y8 ci hc => by
    rw [op_ok (d1 := .int (5 * (k : Int))) (d2 := .int ci) ((op_ok (d1 := .int 5) (d2 := .int k) rfl rfl).trans (by show guard _ _ = _; rw [guard_pos (.inl s5)])) rfl]
    show Res.ok (D.int (5 * (k : Int) + ci)) = _
    congr 2
    omega
  have c0 : ∀ y3 y5 y6 y7 y8 : Option D, dT (dOp gtD (wLen 2 (wRoot 2)) (dC (.int 0))) (sp L R rs y3 (some (.int (k : Int))) y5 y6 y7 y8) = .ok (decide (0 < rs.length)) := fun y3 y5 y6 y7 y8 => by
    refine T_ok ?_
    rw [op_ok (d2 := .int 0) sp_len rfl]
    show Res.ok (D.bl (decide ((0 : Int) < (rs.length : Int)))) = _
    have : ((0 : Int) < (rs.length : Int)) ↔ 0 < rs.length := by omega
    rw [decide_eq_decide.mpr this]
  by_cases hn : 0 < rs.length
  · -- the ring
    have m0 := Int.emod_nonneg (R.getD (5 * k + 2) 0) (show (rs.length : Int) ≠ 0 by omega)
    have m1 := Int.emod_lt_of_pos (R.getD (5 * k + 2) 0) (show (0 : Int) < (rs.length : Int) by omega)
    obtain ⟨j, hj⟩ : ∃ j : Nat, R.getD (5 * k + 2) 0 % (rs.length : Int) = (j : Int) := ⟨(R.getD (5 * k + 2) 0 % (rs.length : Int)).toNat, by omega⟩
    have hjl : j < rs.length := by omega
    have hmem : rs.getD j [] ∈ rs := by rw [List.getD_eq_getElem?_getD, List.getElem?_eq_getElem hjl]; exact List.getElem_mem hjl
    obtain ⟨f1, f2, f3⟩ := hf _ hmem
    have a1 : aliF 3 (wAt 2 (wRoot 2) (dOp modD (dCall (g1 intD) (dCons (dOp ixD (dVar 1) (dOp addD (dOp mulD (dC (.int 5)) (dVar 4)) (dC (.int 2)))) dNil)) (wLen 2 (wRoot 2)))) (sp L R rs x3 (some (.int (k : Int))) x5 x6 x7 x8) = .nx (sp L R rs (some (.own j)) (some (.int (k : Int))) x5 x6 x7 x8) := by
      unfold aliF
      rw [sp_at hjl]
      · rfl
      · rw [op_ok (d1 := .int (R.getD (5 * k + 2) 0)) ((call1_ok (row_ix (k := 5 * k + 2) rfl (ixo 2 _ _ _ _ _ 2 rfl) rfl r2.1)).trans rfl) sp_len]
        show guard _ _ = _
        rw [guard_pos (by omega), hj]
    -- the place
    have n0 := Int.emod_nonneg (R.getD (5 * k + 3) 0) (show ((rs.getD j []).length : Int) ≠ 0 by omega)
    have n1 := Int.emod_lt_of_pos (R.getD (5 * k + 3) 0) (show (0 : Int) < ((rs.getD j []).length : Int) by omega)
    have a2 : setF 5 (dOp modD (dCall (g1 intD) (dCons (dOp ixD (dVar 1) (dOp addD (dOp mulD (dC (.int 5)) (dVar 4)) (dC (.int 3)))) dNil)) (dCall (g1 lenD) (dCons (wRow 2 (wVar 3)) dNil))) (sp L R rs (some (.own j)) (some (.int (k : Int))) x5 x6 x7 x8) = .nx (sp L R rs (some (.own j)) (some (.int (k : Int))) (some (.int (R.getD (5 * k + 3) 0 % ((rs.getD j []).length : Int)))) x6 x7 x8) := by
      refine set_ok ?_
      rw [op_ok (d1 := .int (R.getD (5 * k + 3) 0)) ((call1_ok (row_ix (k := 5 * k + 3) rfl (ixo 3 _ _ _ _ _ 3 rfl) rfl r3.1)).trans rfl) (sp_wlen hjl)]
      show guard _ _ = _
      rw [guard_pos (by omega)]
    have a3 : ∃ a : Nat, a < (rs.getD j []).length ∧ ifF (dT (dOp geD (dOp ixD (dVar 1) (dOp addD (dOp mulD (dC (.int 5)) (dVar 4)) (dC (.int 3)))) (dC (.int 16)))) (setF 5 (dOp subD (dCall (g1 lenD) (dCons (wRow 2 (wVar 3)) dNil)) (dC (.int 1)))) .nx (sp L R rs (some (.own j)) (some (.int (k : Int))) (some (.int (R.getD (5 * k + 3) 0 % ((rs.getD j []).length : Int)))) x6 x7 x8) = .nx (sp L R rs (some (.own j)) (some (.int (k : Int))) (some (.int (a : Int))) x6 x7 x8) := by
      have c : dT (dOp geD (dOp ixD (dVar 1) (dOp addD (dOp mulD (dC (.int 5)) (dVar 4)) (dC (.int 3)))) (dC (.int 16))) (sp L R rs (some (.own j)) (some (.int (k : Int))) (some (.int (R.getD (5 * k + 3) 0 % ((rs.getD j []).length : Int)))) x6 x7 x8) = .ok (decide (16 ≤ R.getD (5 * k + 3) 0)) := by
        refine T_ok ?_
        rw [op_ok (d2 := .int 16) (row_ix (k := 5 * k + 3) rfl (ixo 3 _ _ _ _ _ 3 rfl) rfl r3.1) rfl]
        rfl
      by_cases h : 16 ≤ R.getD (5 * k + 3) 0
      · refine ⟨(rs.getD j []).length - 1, by omega, ?_⟩
        rw [if_t (c.trans (by rw [decide_eq_true h]))]
        refine (set_ok (d := .int (((rs.getD j []).length : Int) - 1)) ((op_ok (d2 := .int 1) (sp_wlen hjl) rfl).trans rfl)).trans ?_
        have e : (((rs.getD j []).length : Int) - 1) = (((rs.getD j []).length - 1 : Nat) : Int) := by omega
        rw [e]
        rfl
      · refine ⟨(R.getD (5 * k + 3) 0 % ((rs.getD j []).length : Int)).toNat, by omega, ?_⟩
        rw [if_f (c.trans (by rw [decide_eq_false h]))]
        have e : R.getD (5 * k + 3) 0 % ((rs.getD j []).length : Int) = (((R.getD (5 * k + 3) 0 % ((rs.getD j []).length : Int)).toNat : Nat) : Int) := by omega
        rw [← e]
    obtain ⟨a, ha, a3⟩ := a3
    have a4 : parF 6 7 (dOp ixD (dVar 1) (dOp addD (dOp mulD (dC (.int 5)) (dVar 4)) (dC (.int 5)))) (dOp ixD (dVar 1) (dOp addD (dOp mulD (dC (.int 5)) (dVar 4)) (dC (.int 6)))) (sp L R rs (some (.own j)) (some (.int (k : Int))) (some (.int (a : Int))) x6 x7 x8) = .nx (sp L R rs (some (.own j)) (some (.int (k : Int))) (some (.int (a : Int))) (some (.int (R.getD (5 * k + 5) 0))) (some (.int (R.getD (5 * k + 6) 0))) x8) :=
      par_ok (row_ix (k := 5 * k + 5) rfl (ixo 5 _ _ _ _ _ 5 rfl) rfl r5.1) (row_ix (k := 5 * k + 6) rfl (ixo 6 _ _ _ _ _ 6 rfl) rfl r6.1)
    generalize hX : R.getD (5 * k + 5) 0 = X at a4 r5
    generalize hY : R.getD (5 * k + 6) 0 = Y at a4 r6
    have c4 : ∀ (v : Int) (y8 : Option D), dT (dOp eqD (dOp ixD (dVar 1) (dOp addD (dOp mulD (dC (.int 5)) (dVar 4)) (dC (.int 4)))) (dC (.int v))) (sp L R rs (some (.own j)) (some (.int (k : Int))) (some (.int (a : Int))) (some (.int X)) (some (.int Y)) y8) = .ok (decide (R.getD (5 * k + 4) 0 = v)) := fun v y8 => by
      refine T_ok ?_
      rw [op_ok (d2 := .int v) (row_ix (k := 5 * k + 4) rfl (ixo 4 _ _ _ _ _ 4 rfl) rfl r4) rfl]
      rfl
    have fin : ∀ q, Gd q → Fit (rs.set j ((rs.getD j []).set a q)) ∧ (rs.set j ((rs.getD j []).set a q)).length = rs.length := fun q hq => ⟨hf.set hjl hq, List.length_set⟩
    rw [Lp_l_spoilt_1, if_t ((c0 _ _ _ _ _).trans (by rw [decide_eq_true hn])), seq_nx a1, seq_nx a2, seq_nx a3, seq_nx a4]
    by_cases h0 : R.getD (5 * k + 4) 0 = 0
    · rw [if_t ((c4 0 _).trans (by rw [decide_eq_true h0])), sp_sto (q := (X, Y)) hjl ha (tup_ok rfl t2)]
      exact ⟨_, _, _, _, _, _, rfl, fin (X, Y) (by unfold Gd; simp only []; omega)⟩
    rw [if_f ((c4 0 _).trans (by rw [decide_eq_false h0]))]
    by_cases h1 : R.getD (5 * k + 4) 0 = 1
    · have hb : (a + 1) % (rs.getD j []).length < (rs.getD j []).length := Nat.mod_lt _ f2
      rw [if_t ((c4 1 _).trans (by rw [decide_eq_true h1])), sp_sto (q := (rs.getD j []).getD ((a + 1) % (rs.getD j []).length) (0, 0)) hjl ha]
      · exact ⟨_, _, _, _, _, _, rfl, fin _ (f1 _ (getD_mem hb))⟩
      · rw [op_ok (d2 := .int (((a + 1) % (rs.getD j []).length : Nat) : Int)) (sp_wrow hjl)]
        · exact row_pt (ixN_nat hb) hb
        · rw [op_ok (d1 := .int ((a : Int) + 1)) ((call1_ok (d1 := .int ((a : Int) + 1)) rfl).trans rfl) (sp_wlen hjl)]
          show guard _ _ = _
          rw [guard_pos (by omega), nxt_mod]
    rw [if_f ((c4 1 _).trans (by rw [decide_eq_false h1]))]
    by_cases h2 : R.getD (5 * k + 4) 0 = 2
    · have hg := f1 _ (getD_mem ha)
      rw [if_t ((c4 2 _).trans (by rw [decide_eq_true h2])), sp_sto (q := (X, ((rs.getD j []).getD a (0, 0)).2)) hjl ha]
      · exact ⟨_, _, _, _, _, _, rfl, fin _ (by unfold Gd at hg ⊢; simp only []; omega)⟩
      · refine tup_ok (cons_ok rfl (cons_ok (d1 := .int ((rs.getD j []).getD a (0, 0)).2) ?_ rfl)) t2
        rw [op_ok (d2 := .int 1) ((op_ok (d2 := .int (a : Int)) (sp_wrow hjl) rfl).trans (row_pt (ixN_nat ha) ha)) rfl]
        exact px1 _
    rw [if_f ((c4 2 _).trans (by rw [decide_eq_false h2]))]
    have hi : ∃ i : Nat, i < (rs.getD j []).length ∧ ixN (rs.getD j []).length ((a : Int) - 1) = some i := by
      by_cases h : a = 0
      · refine ⟨(rs.getD j []).length - 1, by omega, ?_⟩
        unfold ixN
        rw [if_neg (by omega), if_pos (by omega)]
        congr 1
        omega
      · refine ⟨a - 1, by omega, ?_⟩
        unfold ixN
        rw [if_pos (by omega), if_pos (by omega)]
        congr 1
        omega
    obtain ⟨i, hil, hix⟩ := hi
    have hg := f1 _ (getD_mem hil)
    obtain ⟨q, hq1, hq2⟩ := pick_of (reach_ne hg) (13 * X + Y)
    have s8 : setF 8 (dCall F_l_reach (dCons (dOp ixD (wRow 2 (wVar 3)) (dOp subD (dVar 5) (dC (.int 1)))) dNil)) (sp L R rs (some (.own j)) (some (.int (k : Int))) (some (.int (a : Int))) (some (.int X)) (some (.int Y)) x8) = .nx (sp L R rs (some (.own j)) (some (.int (k : Int))) (some (.int (a : Int))) (some (.int X)) (some (.int Y)) (some (.lst ((reachL ((rs.getD j []).getD i (0, 0))).map pD)))) :=
      set_ok ((call1_ok ((op_ok (d2 := .int ((a : Int) - 1)) (sp_wrow hjl) ((op_ok (d1 := .int (a : Int)) (d2 := .int 1) rfl rfl).trans rfl)).trans (row_pt hix hil))).trans (reach_eq _))
    rw [seq_nx s8, sp_sto (q := q) hjl ha]
    · exact ⟨_, _, _, _, _, _, rfl, fin q (reach_edge hq1).2⟩
    · have hlp : 0 < (reachL ((rs.getD j []).getD i (0, 0))).length := by
        cases hz : reachL ((rs.getD j []).getD i (0, 0)) with
        | nil => exact absurd hz (reach_ne hg)
        | cons _ _ => simp
      rw [op_ok (d1 := .lst ((reachL ((rs.getD j []).getD i (0, 0))).map pD)) (d2 := .int ((13 * X + Y) % ((reachL ((rs.getD j []).getD i (0, 0))).length : Int))) rfl, hq2]
      rw [op_ok (d1 := .int (13 * X + Y)) (d2 := .int ((reachL ((rs.getD j []).getD i (0, 0))).length : Int)) ((call1_ok (d1 := .int (13 * X + Y)) ?_).trans rfl) ((call1_ok (d1 := .lst ((reachL ((rs.getD j []).getD i (0, 0))).map pD)) rfl).trans (by show lenD (.lst _) = _; simp [lenD]))]
      · show guard _ _ = _
        rw [guard_pos (by omega)]
      · rw [op_ok (d1 := .int (13 * X)) (d2 := .int Y) ((op_ok (d1 := .int 13) (d2 := .int X) rfl rfl).trans (by show guard _ _ = _; rw [guard_pos (.inl s13)])) rfl]
        rfl
  · refine ⟨rs, x3, x5, x6, x7, x8, ?_, hf, rfl⟩
    rw [Lp_l_spoilt_1, if_f ((c0 _ _ _ _ _).trans (by rw [decide_eq_false hn]))]
end Lk

end S_M_sq
section S_M_sr
set_option linter.all false
set_option maxHeartbeats 2000000
set_option maxRecDepth 100000
namespace Lk
open PySem L2 Dx
def lD (ring : List Pt) : D := .lst (ring.map pD)
theorem rowsOf_l : ∀ rs : List (List Pt), rowsOf (rs.map lD) = some (rows rs)
  | [] => rfl
  | r :: rs => by
    rw [List.map_cons]
    show (match rowsOf (rs.map lD) with | some M => some (r.map pD :: M) | none => none) = _
    rw [rowsOf_l rs]
    rfl
theorem optL_val {g : D → Option D} : ∀ ps : List Pt, (∀ p, g (pD p) = some (pD p)) → optL g (ps.map pD) = some (ps.map pD)
  | [], _ => rfl
  | p :: ps, h => by rw [List.map_cons, optL, h p, optL_val ps h]
theorem optL_own {g : D → Option D} {rs : List (List Pt)} : ∀ (m k : Nat), k + m = rs.length → (∀ j, j < rs.length → g (.own j) = some (lD (rs.getD j []))) → optL g ((List.range' k m).map D.own) = some ((rs.drop k).map lD)
  | 0, k, h, _ => by rw [List.drop_eq_nil_of_le (by omega)]; rfl
  | m + 1, k, h, hg => by
    have hk : k < rs.length := by omega
    rw [List.range'_succ, List.map_cons, optL, hg k hk, optL_own m (k + 1) (by omega) hg, List.drop_eq_getElem_cons hk, List.getD_eq_getElem?_getD, List.getElem?_eq_getElem hk]
    rfl
theorem deref_all (rs : List (List Pt)) : derefD 4 (rows rs ++ [ownRow rs.length]) (.own rs.length) = some (.lst (rs.map lD)) := by
  have hrow : ∀ j, j < rs.length → (rows rs ++ [ownRow rs.length])[j]? = some ((rs.getD j []).map pD) := fun j h => by
    rw [List.getElem?_append_left (by simp [rows]; exact h)]
    unfold rows
    rw [List.getElem?_map, List.getElem?_eq_getElem h, List.getD_eq_getElem?_getD, List.getElem?_eq_getElem h]
    rfl
  have hroot : (rows rs ++ [ownRow rs.length])[rs.length]? = some (ownRow rs.length) := by
    rw [List.getElem?_append_right (by simp [rows])]
    simp [rows]
  have h3 : ∀ j, j < rs.length → derefD 3 (rows rs ++ [ownRow rs.length]) (.own j) = some (lD (rs.getD j [])) := fun j h => by
    rw [derefD, hrow j h]
    dsimp only
    rw [optL_val (g := derefD 2 (rows rs ++ [ownRow rs.length])) (rs.getD j []) fun p => rfl]
    rfl
  rw [derefD, hroot]
  dsimp only
  have := optL_own (g := derefD 3 (rows rs ++ [ownRow rs.length])) rs.length 0 (by omega) h3
  rw [← List.range_eq_range'] at this
  have this : optL (derefD 3 (rows rs ++ [ownRow rs.length])) (ownRow rs.length) = _ := this
  rw [this]
  simp
theorem spoil_loop (L : D) (R : List Int) (N : Nat) (hN : N ≤ 3)
    (rk : ∀ k, k < 3 → (atI (R.map D.int) ((5 * k + 2 : Nat) : Int) = some (.int (R.getD (5 * k + 2) 0)) ∧ 0 ≤ R.getD (5 * k + 2) 0) ∧ (atI (R.map D.int) ((5 * k + 3 : Nat) : Int) = some (.int (R.getD (5 * k + 3) 0)) ∧ 0 ≤ R.getD (5 * k + 3) 0) ∧
      atI (R.map D.int) ((5 * k + 4 : Nat) : Int) = some (.int (R.getD (5 * k + 4) 0)) ∧ (atI (R.map D.int) ((5 * k + 5 : Nat) : Int) = some (.int (R.getD (5 * k + 5) 0)) ∧ 0 ≤ R.getD (5 * k + 5) 0 ∧ R.getD (5 * k + 5) 0 < 13) ∧
      (atI (R.map D.int) ((5 * k + 6 : Nat) : Int) = some (.int (R.getD (5 * k + 6) 0)) ∧ 0 ≤ R.getD (5 * k + 6) 0 ∧ R.getD (5 * k + 6) 0 < 13)) :
    ∀ (m k : Nat) (rs : List (List Pt)) (x3 x4 x5 x6 x7 x8 : Option D), k + m = N → Fit rs →
    ∃ rs' y3 y4 y5 y6 y7 y8, loopF (tgN 4) Lp_l_spoilt_1 ((List.range' k m).map fun (i : Nat) => D.int (i : Int)) (sp L R rs x3 x4 x5 x6 x7 x8) = .nx (sp L R rs' y3 y4 y5 y6 y7 y8) ∧ Fit rs' ∧ rs'.length = rs.length
  | 0, k, rs, x3, x4, x5, x6, x7, x8, _, hf => ⟨rs, x3, x4, x5, x6, x7, x8, rfl, hf, rfl⟩
  | m + 1, k, rs, x3, x4, x5, x6, x7, x8, hk, hf => by
    obtain ⟨q2, q3, q4, q5, q6⟩ := rk k (by omega)
    obtain ⟨rs1, y3, y5, y6, y7, y8, e1, e2, e3⟩ := spoil_step L R rs k (by omega) hf x3 x5 x6 x7 x8 q2 q3 q4 q5 q6
    obtain ⟨rs2, z3, z4, z5, z6, z7, z8, g1, g2, g3⟩ := spoil_loop L R N hN rk m (k + 1) rs1 y3 (some (.int (k : Int))) y5 y6 y7 y8 (by omega) e2
    refine ⟨rs2, z3, z4, z5, z6, z7, z8, ?_, g2, by omega⟩
    rw [List.range'_succ, List.map_cons, loop_nx (r1 := sp L R rs x3 (some (.int (k : Int))) x5 x6 x7 x8) rfl e1]
    exact g1
theorem spoil_eq (R : List Int) (rs : List (List Pt)) (hf : Fit rs) (hn : rs.length ≤ 6) (r1 : atI (R.map D.int) ((1 : Nat) : Int) = some (.int (R.getD 1 0)) ∧ 0 ≤ R.getD 1 0 ∧ R.getD 1 0 < 4)
    (rk : ∀ k, k < 3 → (atI (R.map D.int) ((5 * k + 2 : Nat) : Int) = some (.int (R.getD (5 * k + 2) 0)) ∧ 0 ≤ R.getD (5 * k + 2) 0) ∧ (atI (R.map D.int) ((5 * k + 3 : Nat) : Int) = some (.int (R.getD (5 * k + 3) 0)) ∧ 0 ≤ R.getD (5 * k + 3) 0) ∧
      atI (R.map D.int) ((5 * k + 4 : Nat) : Int) = some (.int (R.getD (5 * k + 4) 0)) ∧ (atI (R.map D.int) ((5 * k + 5 : Nat) : Int) = some (.int (R.getD (5 * k + 5) 0)) ∧ 0 ≤ R.getD (5 * k + 5) 0 ∧ R.getD (5 * k + 5) 0 < 13) ∧
      (atI (R.map D.int) ((5 * k + 6 : Nat) : Int) = some (.int (R.getD (5 * k + 6) 0)) ∧ 0 ≤ R.getD (5 * k + 6) 0 ∧ R.getD (5 * k + 6) 0 < 13)) :
    ∃ rs', F_l_spoilt [.lst (rs.map rD), iL R] = .ok (oD rs') ∧ Fit rs' ∧ rs'.length = rs.length := by
  have hz : ∀ rs : List (List Pt), rs.length ≤ 6 → rs.length ≤ sizeLine := fun rs h => Nat.le_trans (by omega) sz5
  obtain ⟨rs', y3, y4, y5, y6, y7, y8, e1, e2, e3⟩ := spoil_loop (.lst (rs.map rD)) R (R.getD 1 0).toNat (by omega) rk (R.getD 1 0).toNat 0 rs none none none none none none (by omega) hf
  refine ⟨rs', run_rt ?_, e2, e3⟩
  show Fb_l_spoilt [some (.lst (rs.map rD)), some (iL R), none, none, none, none, none, none, none] = _
  have s1 : setF 2 (dLcG (dIt itemsL (dVar 0)) (tgN 3) dYes (dCall (g1 listD) (dCons (dVar 3) dNil)) [3]) [some (.lst (rs.map rD)), some (iL R), none, none, none, none, none, none, none] = .nx (sp (.lst (rs.map rD)) R rs none none none none none none) := by
    refine set_ok (d := .st rs.length (rows rs ++ [ownRow rs.length])) ?_
    unfold dLcG
    rw [it_ok (d := .lst (rs.map rD)) rfl]
    show guard _ _ = _
    rw [guard_pos (by rw [List.length_map]; exact hz rs hn), lc_map (fun d => match d with | .tup ds => .lst ds | d => d)]
    · rw [List.map_map]
      show (match rowsOf (rs.map lD) with | some M => Res.ok (D.st M.length (M ++ [ownRow M.length])) | none => .bad) = _
      rw [rowsOf_l]
      simp [rows]
    · intro d hd
      obtain ⟨ring, hr, rfl⟩ := List.mem_map.mp hd
      exact ⟨_, rfl, rfl, rfl⟩
  have s2 : nonF 3 (sp (.lst (rs.map rD)) R rs none none none none none none) = .nx (sp (.lst (rs.map rD)) R rs none none none none none none) := rfl
  have s3 : dIts rng1 (dCons (dOp ixD (dVar 1) (dC (.int 1))) dNil) (sp (.lst (rs.map rD)) R rs none none none none none none) = .ok ((List.range' 0 (R.getD 1 0).toNat).map fun (i : Nat) => D.int (i : Int)) := by
    refine rng1_ok (by omega) ((row_ix (k := 1) (i := 1) rfl rfl rfl r1.1).trans ?_)
    congr 2
    omega
  have s4 : pubF 4 2 [3] (sp (.lst (rs.map rD)) R rs' y3 y4 y5 y6 y7 y8) = .nx [some (.lst (rs.map rD)), some (iL R), some (.lst (rs'.map lD)), none, y4, y5, y6, y7, y8] := by
    show (match derefD 4 (rows rs' ++ [ownRow rs'.length]) (.own rs'.length) with | some d => SR.nx ((wipeR (sp (.lst (rs.map rD)) R rs' y3 y4 y5 y6 y7 y8) [3]).set 2 (some d)) | none => .bad) = _
    rw [deref_all]
    rfl
  rw [Fb_l_spoilt, seq_nx s1, seq_nx s2, seq_nx ((for_ok s3).trans e1), seq_nx s4]
  refine ret_ok ((call1_ok (d1 := .lst (rs'.map rD)) (lcd_ok (ds := rs'.map lD) rfl (by rw [List.length_map]; exact hz rs' (by omega)) ?_)).trans rfl)
  rw [lc_map (fun d => match d with | .lst ds => .tup ds | d => d)]
  · rw [List.map_map]; rfl
  · intro d hd
    obtain ⟨ring, hr, rfl⟩ := List.mem_map.mp hd
    exact ⟨_, rfl, rfl, rfl⟩
end Lk

end S_M_sr
section S_P_math
set_option linter.all false
set_option maxHeartbeats 2000000
set_option maxRecDepth 100000
namespace Lk
open PySem L2 Dx
theorem scan2_good : ∀ (rs : List (List Pt)) (n : Nat), (∀ r ∈ rs, Good r) → scan2 n rs = none
  | [], _, _ => rfl
  | r :: rs, n, h => by
    rw [scan2, (h r (by simp)).1]
    exact scan2_good rs (n + 1) fun x hx => h x (by simp [hx])
theorem ans_good {rs : List (List Pt)} (h : ∀ r ∈ rs, Good r) : ansD rs = .tup [.str "allowed"] := by unfold ansD; rw [scan2_good rs 0 h]
theorem same_allowed : F_l_same 3 [.tup [.str "allowed"], .tup [.str "allowed"]] = .ok (.bl true) := same_ans []
theorem lc_cons {t : D → Rho → Res Rho} {tt : Rho → Res Bool} {fe : Rho → Res D} {rw r1 : Rho} {d x : D} {ds xs : List D} (h1 : t d rw = .ok r1) (h2 : tt r1 = .ok true) (h3 : fe r1 = .ok x) (h4 : lcLoop t tt fe rw ds = .ok xs) : lcLoop t tt fe rw (d :: ds) = .ok (x :: xs) := by
  rw [lcLoop, h1]
  dsimp only
  rw [h2]
  dsimp only
  rw [h3]
  dsimp only
  rw [h4]
theorem rings_ex (S : D) (ns : List Int) (hS : S = .fz (ns.map D.int)) (x1 x2 : Option D) : ∀ (m k : Nat), k + m ≤ 6 → ∃ rs : List (List Pt), lcLoop (tgN 4) dYes (dCall F_l_ring (dCons (dOp addD (dCall F_l_cell (dCons (dVar 0) (dCons (dOp addD (dVar 4) (dC (.int 1))) dNil))) (dOp mulD (dC (.int 7919)) (dVar 4))) dNil)) [some S, x1, x2, none, none, none, none] ((List.range' k m).map fun (i : Nat) => D.int (i : Int)) = .ok (rs.map rD) ∧ (∀ r ∈ rs, Good r) ∧ rs.length = m
  | 0, k, _ => ⟨[], rfl, fun r hr => (by cases hr), rfl⟩
  | m + 1, k, hk => by
    obtain ⟨rs, h1, h2, h3⟩ := rings_ex S ns hS x1 x2 m (k + 1) (by omega)
    obtain ⟨ring, g1, g2⟩ := ring_eq (ns.getD (k + 1) 0 + 7919 * (k : Int))
    refine ⟨ring :: rs, ?_, fun r hr => ?_, by simp [h3]⟩
    · have sm : smallI (7919 : Int) := small_of (by omega) (by omega)
      have he : dCall F_l_ring (dCons (dOp addD (dCall F_l_cell (dCons (dVar 0) (dCons (dOp addD (dVar 4) (dC (.int 1))) dNil))) (dOp mulD (dC (.int 7919)) (dVar 4))) dNil) [some S, x1, x2, none, some (.int (k : Int)), none, none] = .ok (rD ring) := by
        have hc : dCall F_l_cell (dCons (dVar 0) (dCons (dOp addD (dVar 4) (dC (.int 1))) dNil)) [some S, x1, x2, none, some (.int (k : Int)), none, none] = .ok (.int (ns.getD (k + 1) 0)) := by
          rw [call2_ok (d1 := S) (d2 := .int ((k : Int) + 1)) rfl rfl, hS, show ((k : Int) + 1) = ((k + 1 : Nat) : Int) from by omega]
          exact cell_eq ns (k + 1) (by omega)
        rw [call1_ok (d1 := .int (ns.getD (k + 1) 0 + 7919 * (k : Int)))]
        · exact g1
        · rw [op_ok (d2 := .int (7919 * (k : Int))) hc ((op_ok (d1 := .int 7919) (d2 := .int (k : Int)) rfl rfl).trans (by show guard _ _ = _; rw [guard_pos (.inl sm)]))]
          rfl
      rw [List.range'_succ, List.map_cons]
      exact lc_cons (r1 := [some S, x1, x2, none, some (.int (k : Int)), none, none]) rfl rfl he h1
    · rcases List.mem_cons.mp hr with rfl | hr
      · exact g2
      · exact h2 r hr
def lim : List Int := [7, 4, 6, 20, 4, 13, 13, 6, 20, 4, 13, 13, 6, 20, 4, 13, 13]
theorem law1 (S R x2 x6 : Option D) (gs ss : List (List Pt)) (hg : ∀ r ∈ gs, Good r) (hs : Fit ss) (hl : ss.length = gs.length) : ∀ (m k : Nat) (x4 : Option D), k + m = gs.length →
    ∃ y4, loopF (tgN 4) Lp_law_1 ((List.range' k m).map fun (i : Nat) => D.int (i : Int)) [S, R, x2, some (.lst (gs.map rD)), x4, some (oD ss), x6] = .nx [S, R, x2, some (.lst (gs.map rD)), y4, some (oD ss), x6]
  | 0, k, x4, _ => ⟨x4, rfl⟩
  | m + 1, k, x4, hk => by
    obtain ⟨y4, q⟩ := law1 S R x2 x6 gs ss hg hs hl m (k + 1) (some (.int (k : Int))) (by omega)
    refine ⟨y4, ?_⟩
    have t1 : (1 : Nat) ≤ sizeLine := by decide
    have hkg : k < gs.length := by omega
    have hks : k < ss.length := by omega
    have mg : gs.getD k [] ∈ gs := by rw [List.getD_eq_getElem?_getD, List.getElem?_eq_getElem hkg]; exact List.getElem_mem hkg
    have ms : ss.getD k [] ∈ ss := by rw [List.getD_eq_getElem?_getD, List.getElem?_eq_getElem hks]; exact List.getElem_mem hks
    have gg := hg _ mg
    have gs' := hs _ ms
    have xg : dOp ixD (dVar 3) (dVar 4) [S, R, x2, some (.lst (gs.map rD)), some (.int (k : Int)), some (oD ss), x6] = .ok (rD (gs.getD k [])) := by
      rw [op_ok (d1 := .lst (gs.map rD)) (d2 := .int (k : Int)) rfl rfl]
      refine ix_lst (atI_nat ?_)
      rw [List.getElem?_map, List.getElem?_eq_getElem hkg, List.getD_eq_getElem?_getD, List.getElem?_eq_getElem hkg]
      rfl
    have xs : dOp ixD (dVar 5) (dVar 4) [S, R, x2, some (.lst (gs.map rD)), some (.int (k : Int)), some (oD ss), x6] = .ok (rD (ss.getD k [])) := (op_ok (d1 := oD ss) (d2 := .int (k : Int)) rfl rfl).trans (out_at hks)
    have tg : dTup (dCons (dOp ixD (dVar 3) (dVar 4)) dNil) [S, R, x2, some (.lst (gs.map rD)), some (.int (k : Int)), some (oD ss), x6] = .ok (oD [gs.getD k []]) := tup_ok (cons_ok xg rfl) t1
    have ts : dTup (dCons (dOp ixD (dVar 5) (dVar 4)) dNil) [S, R, x2, some (.lst (gs.map rD)), some (.int (k : Int)), some (oD ss), x6] = .ok (oD [ss.getD k []]) := tup_ok (cons_ok xs rfl) t1
    have c1 : dT (dCall (F_l_same 3) (dCons (dCall F_l_told (dCons (dTup (dCons (dOp ixD (dVar 3) (dVar 4)) dNil)) dNil)) (dCons (dTup (dCons (dC (.str "allowed")) dNil)) dNil))) [S, R, x2, some (.lst (gs.map rD)), some (.int (k : Int)), some (oD ss), x6] = .ok true := by
      refine T_ok ?_
      rw [call2_ok ((call1_ok tg).trans (told_eq [gs.getD k []] (fun r hr => by rw [List.mem_singleton.mp hr]; have := gg.2.2.2; omega))) (tup_ok (ds := [.str "allowed"]) rfl t1), ans_good (fun r hr => by rw [List.mem_singleton.mp hr]; exact gg)]
      exact same_allowed
    have c2 : dT (dCall (F_l_same 3) (dCons (dCall F_l_told (dCons (dTup (dCons (dOp ixD (dVar 5) (dVar 4)) dNil)) dNil)) (dCons (dCall F_l_first_bad (dCons (dTup (dCons (dOp ixD (dVar 5) (dVar 4)) dNil)) dNil)) dNil))) [S, R, x2, some (.lst (gs.map rD)), some (.int (k : Int)), some (oD ss), x6] = .ok true := by
      have hl1 : ∀ r ∈ [ss.getD k []], r.length < 1000 := fun r hr => by rw [List.mem_singleton.mp hr]; have := gs'.2.2; omega
      refine T_ok ?_
      rw [call2_ok ((call1_ok ts).trans (told_eq [ss.getD k []] hl1)) ((call1_ok ts).trans (fb_eq [ss.getD k []] (by simp) hl1))]
      exact same_ans _
    have step : Lp_law_1 [S, R, x2, some (.lst (gs.map rD)), some (.int (k : Int)), some (oD ss), x6] = .nx [S, R, x2, some (.lst (gs.map rD)), some (.int (k : Int)), some (oD ss), x6] := by
      rw [Lp_law_1, seq_nx (if_f (not_ok c1)), if_f (not_ok c2)]
    rw [List.range'_succ, List.map_cons, loop_nx (r1 := [S, R, x2, some (.lst (gs.map rD)), some (.int (k : Int)), some (oD ss), x6]) rfl step]
    exact q
theorem law2 (S R x2 : Option D) (gs ss : List (List Pt)) (hg : ∀ r ∈ gs, Good r) (hs : Fit ss) (hl : ss.length = gs.length) (hn : gs.length ≤ 6) : ∀ (ds : List D) (x4 x6 : Option D),
    ∃ y4 y6, loopF (tgN 6) Lp_law_2 ds [S, R, x2, some (.lst (gs.map rD)), x4, some (oD ss), x6] = .nx [S, R, x2, some (.lst (gs.map rD)), y4, some (oD ss), y6]
  | [], x4, x6 => ⟨x4, x6, rfl⟩
  | d :: ds, x4, x6 => by
    obtain ⟨z4, q1⟩ := law1 S R x2 (some d) gs ss hg hs hl gs.length 0 x4 (by omega)
    obtain ⟨y4, y6, q⟩ := law2 S R x2 gs ss hg hs hl hn ds z4 (some d)
    refine ⟨y4, y6, ?_⟩
    have t1 : (1 : Nat) ≤ sizeLine := by decide
    have lg : ∀ r ∈ gs, r.length < 1000 := fun r hr => by have := (hg r hr).2.2.2; omega
    have ls : ∀ r ∈ ss, r.length < 1000 := fun r hr => by have := (hs r hr).2.2; omega
    have lr : ∀ r ∈ ss.reverse, r.length < 1000 := fun r hr => ls r (List.mem_reverse.mp hr)
    have rev : ∀ y4 : Option D, dUn revT (dVar 5) [S, R, x2, some (.lst (gs.map rD)), y4, some (oD ss), some d] = .ok (oD ss.reverse) := fun y4 => by
      rw [un_ok (d1 := oD ss) rfl]
      show Res.ok (D.tup (ss.map rD).reverse) = _
      rw [← List.map_reverse]
      rfl
    have c1 : dT (dCall (F_l_same 3) (dCons (dCall F_l_told (dCons (dCall (g1 tupleD) (dCons (dVar 3) dNil)) dNil)) (dCons (dTup (dCons (dC (.str "allowed")) dNil)) dNil))) [S, R, x2, some (.lst (gs.map rD)), x4, some (oD ss), some d] = .ok true := by
      refine T_ok ?_
      rw [call2_ok ((call1_ok (d1 := oD gs) ((call1_ok (d1 := .lst (gs.map rD)) rfl).trans rfl)).trans (told_eq gs lg)) (tup_ok (ds := [.str "allowed"]) rfl t1), ans_good hg]
      exact same_allowed
    have c2 : dT (dCall (F_l_same 3) (dCons (dCall F_l_told (dCons (dVar 5) dNil)) (dCons (dCall F_l_first_bad (dCons (dVar 5) dNil)) dNil))) [S, R, x2, some (.lst (gs.map rD)), x4, some (oD ss), some d] = .ok true := by
      refine T_ok ?_
      rw [call2_ok ((call1_ok (d1 := oD ss) rfl).trans (told_eq ss ls)) ((call1_ok (d1 := oD ss) rfl).trans (fb_eq ss (by omega) ls))]
      exact same_ans _
    have c3 : dT (dCall (F_l_same 3) (dCons (dCall F_l_told (dCons (dUn revT (dVar 5)) dNil)) (dCons (dCall F_l_first_bad (dCons (dUn revT (dVar 5)) dNil)) dNil))) [S, R, x2, some (.lst (gs.map rD)), z4, some (oD ss), some d] = .ok true := by
      refine T_ok ?_
      rw [call2_ok ((call1_ok (rev _)).trans (told_eq ss.reverse lr)) ((call1_ok (rev _)).trans (fb_eq ss.reverse (by simp; omega) lr))]
      exact same_ans _
    have s3 : dIts rng1 (dCons (dCall (g1 lenD) (dCons (dVar 3) dNil)) dNil) [S, R, x2, some (.lst (gs.map rD)), x4, some (oD ss), some d] = .ok ((List.range' 0 gs.length).map fun (i : Nat) => D.int (i : Int)) := rng1_ok (by omega) ((call1_ok (d1 := .lst (gs.map rD)) rfl).trans (by show lenD (.lst (gs.map rD)) = _; simp [lenD]))
    have step : Lp_law_2 [S, R, x2, some (.lst (gs.map rD)), x4, some (oD ss), some d] = .nx [S, R, x2, some (.lst (gs.map rD)), z4, some (oD ss), some d] := by
      rw [Lp_law_2, seq_nx (if_f (not_ok c1)), seq_nx (if_f (not_ok c2)), seq_nx ((for_ok s3).trans q1), if_f (not_ok c3)]
    rw [loop_nx (r1 := [S, R, x2, some (.lst (gs.map rD)), x4, some (oD ss), some d]) rfl step]
    exact q
theorem law_true (ns : List Int) (h : ns.length ≤ 63) : F_law [.fz (ns.map D.int)] = .ok (.bl true) := by
  have hlp : ∀ l ∈ lim, 0 < l ∧ l < 4611686018427387904 := by decide
  have hp : ∀ l ∈ lim, 0 < l := fun l h => (hlp l h).1
  have hrow := row_eq (ns.getD 0 0) lim hlp (by decide)
  have r0 := row_at (c := ns.getD 0 0) (k := 0) hp rfl
  have r1 := row_at (c := ns.getD 0 0) (k := 1) hp rfl
  have rk : ∀ k, k < 3 → _ := fun k hk => And.intro (row_at (c := ns.getD 0 0) (k := 5 * k + 2) (l := 6) hp (by match k, hk with | 0, _ => rfl | 1, _ => rfl | 2, _ => rfl)) (And.intro (row_at (c := ns.getD 0 0) (k := 5 * k + 3) (l := 20) hp (by match k, hk with | 0, _ => rfl | 1, _ => rfl | 2, _ => rfl)) (And.intro (row_at (c := ns.getD 0 0) (k := 5 * k + 4) (l := 4) hp (by match k, hk with | 0, _ => rfl | 1, _ => rfl | 2, _ => rfl)) (And.intro (row_at (c := ns.getD 0 0) (k := 5 * k + 5) (l := 13) hp (by match k, hk with | 0, _ => rfl | 1, _ => rfl | 2, _ => rfl)) (row_at (c := ns.getD 0 0) (k := 5 * k + 6) (l := 13) hp (by match k, hk with | 0, _ => rfl | 1, _ => rfl | 2, _ => rfl)))))
  generalize rowL (ns.getD 0 0) lim = R at hrow r0 r1 rk
  generalize hS : D.fz (ns.map D.int) = S
  have t2 : (2 : Nat) ≤ sizeLine := by decide
  have t5 : (5 : Nat) ≤ sizeLine := by decide
  have t7 : (7 : Nat) ≤ sizeLine := by decide
  have t15 : (15 : Nat) ≤ sizeLine := by decide
  have t17 : (17 : Nat) ≤ sizeLine := by decide
  obtain ⟨many, hm1, hm2⟩ : ∃ many : Nat, atI ([2, 1, 3, 0, 4, 5, 6].map D.int) (R.getD 0 0) = some (.int (many : Int)) ∧ many ≤ 6 := by
    obtain ⟨k, hk⟩ : ∃ k : Nat, R.getD 0 0 = (k : Int) := ⟨(R.getD 0 0).toNat, by have := r0.2.1; omega⟩
    have hk7 : k < 7 := by have := r0.2.2; omega
    rw [hk]
    match k, hk7 with
    | 0, _ => exact ⟨2, rfl, by omega⟩
    | 1, _ => exact ⟨1, rfl, by omega⟩
    | 2, _ => exact ⟨3, rfl, by omega⟩
    | 3, _ => exact ⟨0, rfl, by omega⟩
    | 4, _ => exact ⟨4, rfl, by omega⟩
    | 5, _ => exact ⟨5, rfl, by omega⟩
    | 6, _ => exact ⟨6, rfl, by omega⟩
  obtain ⟨gs, g1, g2, g3⟩ := rings_ex S ns hS.symm (some (iL R)) (some (.int (many : Int))) many 0 (by omega)
  have hfit : Fit gs := fun r hr => ⟨(g2 r hr).2.1, (g2 r hr).2.2⟩
  obtain ⟨ss, s1, s2, s3⟩ := spoil_eq R gs hfit (by omega) r1 (fun k hk => by
    obtain ⟨a, b, c, d, e⟩ := rk k hk
    exact ⟨⟨a.1, a.2.1⟩, ⟨b.1, b.2.1⟩, c.1, d, e⟩)
  refine run_rt ?_
  show Fb_law [some S, none, none, none, none, none, none] = _
  have a1 : (dOp addD (dLst (dCons (dC (.int 7)) (dCons (dC (.int 4)) dNil))) (dOp mulD (dLst (dCons (dC (.int 6)) (dCons (dC (.int 20)) (dCons (dC (.int 4)) (dCons (dC (.int 13)) (dCons (dC (.int 13)) dNil)))))) (dC (.int 3)))) [some S, none, none, none, none, none, none] = .ok (iL lim) := by
    simp [tgN, tgT, tgNil, tgCons, seqF, appF, stoF, asgF, parF, ownL, liftS, dOp, dUn, dVar, dC, dCall, dCons, dNil, g1, g2, intD, lenD, modD, fdivD, mulD, addD, subD, negD, absD, intsD, setF, retF, ifF, dropF, dT, asB, asI, dAnd, dOr, dNot, dIf, dAndV, dOrV, dNotV, dTup, mkTup, dLst, mkLst, dChain, Res.bind, List.set, List.getElem?_cons_zero, List.getElem?_cons_succ, List.getElem?_nil, runF, startR, List.map_cons, List.map_nil, List.replicate, List.length_cons, List.length_nil, List.cons_append, List.nil_append, List.append_nil, ordD, eqD, neD, eqB, eqFlat, isD, isN, forF, dIt, dIts, itemsL, itemsT, itemsS, items, listD, tupleD, rng1, rng2, dYes, wipeR, dLc, dNoP, dPart, dSl, slD, slL, ixD, inD, ninD, inB, dTru, truB, strD, dStr, asS, joinD, joinZ, splitD, fmtD, dJoin, dJcons, dJnil, augF, guard_true, guardS_true, and_self, and_true, true_and, t2, t5, t15, t17, lim]
  have a2 : dCall F_l_cell (dCons (dVar 0) (dCons (dC (.int 0)) dNil)) [some S, none, none, none, none, none, none] = .ok (.int (ns.getD 0 0)) := by
    rw [call2_ok (d1 := S) (d2 := .int 0) rfl rfl, ← hS]
    exact cell_eq ns 0 (by omega)
  rw [Fb_law, seq_nx (set_ok (d := iL R) ((call2_ok a2 a1).trans hrow))]
  have b1 : dOp ixD (dLst (dCons (dC (.int 2)) (dCons (dC (.int 1)) (dCons (dC (.int 3)) (dCons (dC (.int 0)) (dCons (dC (.int 4)) (dCons (dC (.int 5)) (dCons (dC (.int 6)) dNil)))))))) (dOp ixD (dVar 1) (dC (.int 0))) [some S, some (iL R), none, none, none, none, none] = .ok (.int (many : Int)) := by
    rw [op_ok (d1 := .lst ([2, 1, 3, 0, 4, 5, 6].map D.int)) (d2 := .int (R.getD 0 0)) (by simp [tgN, tgT, tgNil, tgCons, seqF, appF, stoF, asgF, parF, ownL, liftS, dOp, dUn, dVar, dC, dCall, dCons, dNil, g1, g2, intD, lenD, modD, fdivD, mulD, addD, subD, negD, absD, intsD, setF, retF, ifF, dropF, dT, asB, asI, dAnd, dOr, dNot, dIf, dAndV, dOrV, dNotV, dTup, mkTup, dLst, mkLst, dChain, Res.bind, List.set, List.getElem?_cons_zero, List.getElem?_cons_succ, List.getElem?_nil, runF, startR, List.map_cons, List.map_nil, List.replicate, List.length_cons, List.length_nil, List.cons_append, List.nil_append, List.append_nil, ordD, eqD, neD, eqB, eqFlat, isD, isN, forF, dIt, dIts, itemsL, itemsT, itemsS, items, listD, tupleD, rng1, rng2, dYes, wipeR, dLc, dNoP, dPart, dSl, slD, slL, ixD, inD, ninD, inB, dTru, truB, strD, dStr, asS, joinD, joinZ, splitD, fmtD, dJoin, dJcons, dJnil, augF, guard_true, guardS_true, and_self, and_true, true_and, t7]) (row_ix (k := 0) (i := 0) rfl rfl rfl r0.1)]
    exact ix_lst hm1
  refine (seq_nx (set_ok b1)).trans ?_
  refine (seq_nx (set_ok (d := .lst (gs.map rD)) (lcd_ok (ds := (List.range' 0 many).map fun (i : Nat) => D.int (i : Int)) (rng1_ok (by omega) rfl) (by simp; exact Nat.le_trans (by omega) sz5) g1))).trans ?_
  refine (seq_nx (set_ok (d := oD ss) ((call2_ok (d1 := .lst (gs.map rD)) (d2 := iL R) rfl rfl).trans s1))).trans ?_
  obtain ⟨y4, y6, q⟩ := law2 (some S) (some (iL R)) (some (.int (many : Int))) gs ss g2 s2 s3 (by omega) ((List.range' 0 2).map fun (i : Nat) => D.int (i : Int)) none none
  refine (seq_nx ((for_ok (rng1_ok (n := 2) (by omega) rfl)).trans q)).trans ?_
  exact ret_ok rfl
end Lk

end S_P_math
section S_P_walk
set_option Elab.async false
set_option linter.all false
set_option maxRecDepth 100000
set_option maxHeartbeats 4000000
namespace Lk
open PySem L2 Dx
def topS (i : Nat) : Stmt := PySem.Challenge.pw_laidforall_k21_first_bad_edge.main.body.getD i (.Pass ⟨0, 0, 0, 0⟩)
abbrev s_edges_of : Stmt := topS 6
theorem sc_edges_of : FnScope ["ring", "k"] ["ring"] (defScope s_edges_of) := ⟨rfl, rfl, rfl, by decide +kernel, rfl, by decide +kernel, by decide +kernel⟩
abbrev s_is_edge : Stmt := topS 7
theorem sc_is_edge : FnScope ["start", "end", "right", "down"] ["start", "end"] (defScope s_is_edge) := ⟨rfl, rfl, rfl, by decide +kernel, rfl, by decide +kernel, by decide +kernel⟩
abbrev s_check_outline : Stmt := topS 8
theorem sc_check_outline : FnScope ["outline", "number", "ring", "point", "start", "end"] ["outline"] (defScope s_check_outline) := ⟨rfl, rfl, rfl, by decide +kernel, rfl, by decide +kernel, by decide +kernel⟩
abbrev s_l_cell : Stmt := topS 10
theorem sc_l_cell : FnScope ["_law_script", "_law_k"] ["_law_script", "_law_k"] (defScope s_l_cell) := ⟨rfl, rfl, rfl, by decide +kernel, rfl, by decide +kernel, by decide +kernel⟩
abbrev s_l_row : Stmt := topS 11
theorem sc_l_row : FnScope ["_law_cell_here", "_law_limits", "_law_row_here", "_law_rest", "_law_limit", "_law_k", "_law_mixed"] ["_law_cell_here", "_law_limits"] (defScope s_l_row) := ⟨rfl, rfl, rfl, by decide +kernel, rfl, by decide +kernel, by decide +kernel⟩
abbrev s_l_same : Stmt := topS 12
theorem sc_l_same : FnScope ["_law_one", "_law_two", "_law_k"] ["_law_one", "_law_two"] (defScope s_l_same) := ⟨rfl, rfl, rfl, by decide +kernel, rfl, by decide +kernel, by decide +kernel⟩
abbrev s_l_reach : Stmt := topS 13
theorem sc_l_reach : FnScope ["_law_point", "_law_found", "_law_length", "_law_right", "_law_down", "_law_x", "_law_y"] ["_law_point"] (defScope s_l_reach) := ⟨rfl, rfl, rfl, by decide +kernel, rfl, by decide +kernel, by decide +kernel⟩
abbrev s_l_ring : Stmt := topS 14
theorem sc_l_ring : FnScope ["_law_cell_here", "_law_row_here", "_law_ring_here", "_law_back", "_law_k", "_law_options", "_law_point"] ["_law_cell_here"] (defScope s_l_ring) := ⟨rfl, rfl, rfl, by decide +kernel, rfl, by decide +kernel, by decide +kernel⟩
abbrev s_l_spoilt : Stmt := topS 15
theorem sc_l_spoilt : FnScope ["_law_rings", "_law_row_here", "_law_out", "_law_ring_here", "_law_k", "_law_at", "_law_x", "_law_y", "_law_options"] ["_law_rings", "_law_row_here"] (defScope s_l_spoilt) := ⟨rfl, rfl, rfl, by decide +kernel, rfl, by decide +kernel, by decide +kernel⟩
abbrev s_l_first_bad : Stmt := topS 16
theorem sc_l_first_bad : FnScope ["_law_outline", "_law_r", "_law_ring_here", "_law_p", "_law_x", "_law_y", "_law_u", "_law_v", "_law_right", "_law_down"] ["_law_outline"] (defScope s_l_first_bad) := ⟨rfl, rfl, rfl, by decide +kernel, rfl, by decide +kernel, by decide +kernel⟩
abbrev s_l_told : Stmt := topS 17
theorem sc_l_told : FnScope ["_law_outline", "_law_answer", "e"] ["_law_outline"] (defScope s_l_told) := ⟨rfl, rfl, rfl, by decide +kernel, rfl, by decide +kernel, by decide +kernel⟩
abbrev s_law : Stmt := topS 18
theorem sc_law : FnScope ["_law_script", "_law_row_here", "_law_many", "_law_rings", "_law_k", "_law_spoilt_here", "_law_turn"] ["_law_script"] (defScope s_law) := ⟨rfl, rfl, rfl, by decide +kernel, rfl, by decide +kernel, by decide +kernel⟩
abbrev s_BadOutline : Stmt := inClass (topS 3) 0
theorem sc_BadOutline : FnScope ["self", "ring", "point"] ["self", "ring", "point"] (defScope s_BadOutline) := ⟨rfl, rfl, rfl, by decide +kernel, rfl, by decide +kernel, by decide +kernel⟩
structure Txt (K : PySem.W.Frag) (mg : Str → Option Value) where
  f_edges_of : Addr
  fd_edges_of : FuncData
  F_edges_of : Fun K "edges_of" "edges_of" s_edges_of f_edges_of fd_edges_of
  g_edges_of : mg "edges_of" = some (.ref f_edges_of)
  b_edges_of : L2.Binds K fd_edges_of ["ring"] []
  f_is_edge : Addr
  fd_is_edge : FuncData
  F_is_edge : Fun K "is_edge" "is_edge" s_is_edge f_is_edge fd_is_edge
  g_is_edge : mg "is_edge" = some (.ref f_is_edge)
  b_is_edge : L2.Binds K fd_is_edge ["start", "end"] []
  f_check_outline : Addr
  fd_check_outline : FuncData
  F_check_outline : Fun K "check_outline" "check_outline" s_check_outline f_check_outline fd_check_outline
  g_check_outline : mg "check_outline" = some (.ref f_check_outline)
  b_check_outline : L2.Binds K fd_check_outline ["outline"] []
  f_l_cell : Addr
  fd_l_cell : FuncData
  F_l_cell : Fun K "_law_cell" "_law_cell" s_l_cell f_l_cell fd_l_cell
  g_l_cell : mg "_law_cell" = some (.ref f_l_cell)
  b_l_cell : L2.Binds K fd_l_cell ["_law_script", "_law_k"] []
  f_l_row : Addr
  fd_l_row : FuncData
  F_l_row : Fun K "_law_row" "_law_row" s_l_row f_l_row fd_l_row
  g_l_row : mg "_law_row" = some (.ref f_l_row)
  b_l_row : L2.Binds K fd_l_row ["_law_cell_here", "_law_limits"] []
  f_l_same : Addr
  fd_l_same : FuncData
  F_l_same : Fun K "_law_same" "_law_same" s_l_same f_l_same fd_l_same
  g_l_same : mg "_law_same" = some (.ref f_l_same)
  b_l_same : L2.Binds K fd_l_same ["_law_one", "_law_two"] []
  f_l_reach : Addr
  fd_l_reach : FuncData
  F_l_reach : Fun K "_law_reach" "_law_reach" s_l_reach f_l_reach fd_l_reach
  g_l_reach : mg "_law_reach" = some (.ref f_l_reach)
  b_l_reach : L2.Binds K fd_l_reach ["_law_point"] []
  f_l_ring : Addr
  fd_l_ring : FuncData
  F_l_ring : Fun K "_law_ring" "_law_ring" s_l_ring f_l_ring fd_l_ring
  g_l_ring : mg "_law_ring" = some (.ref f_l_ring)
  b_l_ring : L2.Binds K fd_l_ring ["_law_cell_here"] []
  f_l_spoilt : Addr
  fd_l_spoilt : FuncData
  F_l_spoilt : Fun K "_law_spoilt" "_law_spoilt" s_l_spoilt f_l_spoilt fd_l_spoilt
  g_l_spoilt : mg "_law_spoilt" = some (.ref f_l_spoilt)
  b_l_spoilt : L2.Binds K fd_l_spoilt ["_law_rings", "_law_row_here"] []
  f_l_first_bad : Addr
  fd_l_first_bad : FuncData
  F_l_first_bad : Fun K "_law_first_bad" "_law_first_bad" s_l_first_bad f_l_first_bad fd_l_first_bad
  g_l_first_bad : mg "_law_first_bad" = some (.ref f_l_first_bad)
  b_l_first_bad : L2.Binds K fd_l_first_bad ["_law_outline"] []
  f_l_told : Addr
  fd_l_told : FuncData
  F_l_told : Fun K "_law_told" "_law_told" s_l_told f_l_told fd_l_told
  g_l_told : mg "_law_told" = some (.ref f_l_told)
  b_l_told : L2.Binds K fd_l_told ["_law_outline"] []
  f_law : Addr
  fd_law : FuncData
  F_law : Fun K "law" "law" s_law f_law fd_law
  g_law : mg "law" = some (.ref f_law)
  b_law : L2.Binds K fd_law ["_law_script"] []
  n_ValueError : mg "ValueError" = none
  n_abs : mg "abs" = none
  n_bool : mg "bool" = none
  n_enumerate : mg "enumerate" = none
  n_int : mg "int" = none
  n_isinstance : mg "isinstance" = none
  n_len : mg "len" = none
  n_list : mg "list" = none
  n_range : mg "range" = none
  n_str : mg "str" = none
  n_tuple : mg "tuple" = none
  a_BadFace : Addr
  g_BadFace : mg "BadFace" = some (.ref a_BadFace)
  a_BadLine : Addr
  g_BadLine : mg "BadLine" = some (.ref a_BadLine)
  a_BadOutline : Addr
  g_BadOutline : mg "BadOutline" = some (.ref a_BadOutline)
  a_LaidError : Addr
  g_LaidError : mg "LaidError" = some (.ref a_LaidError)
  o_BadOutline : OexC K a_BadOutline
  fI_BadOutline : Addr
  fdI_BadOutline : FuncData
  i_BadOutline : PySem.W.findIn K (.ref a_BadOutline) "__init__" = some (some (.ref fI_BadOutline))
  ti_BadOutline : PySem.W.typeIn K (.ref fI_BadOutline) = some (.type "function")
  FI_BadOutline : Fun K "__init__" "BadOutline.__init__" s_BadOutline fI_BadOutline fdI_BadOutline
  b_BadOutline : L2.Binds K fdI_BadOutline ["self", "ring", "point"] []
  no_BadOutline_ring : PySem.W.findIn K (.ref a_BadOutline) "ring" = some none
  no_BadOutline_point : PySem.W.findIn K (.ref a_BadOutline) "point" = some none
  xf_BadOutline : XfC K a_BadOutline
  xc_BadOutline : ExcC K a_BadOutline
  e_BadOutline_BadOutline : PySem.W.exmOne K (.ref a_BadOutline) (.ref a_BadOutline) = some true
  q_BadOutline_BadFace : PySem.W.kitOne K (.ref a_BadOutline) (.ref a_BadFace) = some false
  q_BadOutline_BadLine : PySem.W.kitOne K (.ref a_BadOutline) (.ref a_BadLine) = some false
  q_BadOutline_LaidError : PySem.W.kitOne K (.ref a_BadOutline) (.ref a_LaidError) = some true
  q_BadOutline_ValueError : PySem.W.kitOne K (.ref a_BadOutline) (.type "ValueError") = some true
def Txt.cm {K : PySem.W.Frag} {mg : Str → Option Value} (T : Txt K mg) : CM := fun n => if n = "BadOutline" then some T.a_BadOutline else none
section
variable {P : Program} {w : World} {K : PySem.W.Frag} {mg : Str → Option Value} {base : Heap}
theorem Txt.cm_BadOutline (T : Txt K mg) : T.cm "BadOutline" = some T.a_BadOutline := by unfold Txt.cm; simp
theorem Txt.exm_BadOutline (T : Txt K mg) : ∀ n C b, T.cm n = some C → isM_BadOutline n = some b → PySem.W.exmOne K (.ref C) (.ref T.a_BadOutline) = some b := by
  intro n C b h1 h2
  unfold Txt.cm at h1
  unfold isM_BadOutline at h2
  by_cases e0 : n = "BadOutline"
  · subst e0; simp at h1 h2; subst h1 h2; exact T.e_BadOutline_BadOutline
  simp [e0] at h1
theorem Txt.xf_of_BadOutline (T : Txt K mg) {C : Addr} (h : ∃ n, T.cm n = some C ∧ isM_BadOutline n = some true) : XfC K C := by
  obtain ⟨n, h1, h2⟩ := h
  unfold Txt.cm at h1
  unfold isM_BadOutline at h2
  by_cases e0 : n = "BadOutline"
  · subst e0; simp at h1; subst h1; exact T.xf_BadOutline
  simp [e0] at h1
theorem Txt.xc_of_BadOutline (T : Txt K mg) {C : Addr} (h : ∃ n, T.cm n = some C ∧ isM_BadOutline n = some true) : ExcC K C := by
  obtain ⟨n, h1, h2⟩ := h
  unfold Txt.cm at h1
  unfold isM_BadOutline at h2
  by_cases e0 : n = "BadOutline"
  · subst e0; simp at h1; subst h1; exact T.xc_BadOutline
  simp [e0] at h1
theorem Txt.no_of_BadOutline_point (T : Txt K mg) {C : Addr} (h : ∃ n, T.cm n = some C ∧ isM_BadOutline n = some true) : PySem.W.findIn K (.ref C) "point" = some none := by
  obtain ⟨n, h1, h2⟩ := h
  unfold Txt.cm at h1
  unfold isM_BadOutline at h2
  by_cases e0 : n = "BadOutline"
  · subst e0; simp at h1; subst h1; exact T.no_BadOutline_point
  simp [e0] at h1
theorem Txt.no_of_BadOutline_ring (T : Txt K mg) {C : Addr} (h : ∃ n, T.cm n = some C ∧ isM_BadOutline n = some true) : PySem.W.findIn K (.ref C) "ring" = some none := by
  obtain ⟨n, h1, h2⟩ := h
  unfold Txt.cm at h1
  unfold isM_BadOutline at h2
  by_cases e0 : n = "BadOutline"
  · subst e0; simp at h1; subst h1; exact T.no_BadOutline_ring
  simp [e0] at h1
theorem Txt.isi_BadFace (T : Txt K mg) : ∀ n C b, T.cm n = some C → isM_BadFace n = some b → PySem.W.kitOne K (.ref C) (.ref T.a_BadFace) = some b := by
  intro n C b h1 h2
  unfold Txt.cm at h1
  unfold isM_BadFace at h2
  by_cases e0 : n = "BadOutline"
  · subst e0; simp at h1 h2; subst h1 h2; exact T.q_BadOutline_BadFace
  simp [e0] at h1
theorem Txt.isi_BadLine (T : Txt K mg) : ∀ n C b, T.cm n = some C → isM_BadLine n = some b → PySem.W.kitOne K (.ref C) (.ref T.a_BadLine) = some b := by
  intro n C b h1 h2
  unfold Txt.cm at h1
  unfold isM_BadLine at h2
  by_cases e0 : n = "BadOutline"
  · subst e0; simp at h1 h2; subst h1 h2; exact T.q_BadOutline_BadLine
  simp [e0] at h1
theorem Txt.isi_LaidError (T : Txt K mg) : ∀ n C b, T.cm n = some C → isM_LaidError n = some b → PySem.W.kitOne K (.ref C) (.ref T.a_LaidError) = some b := by
  intro n C b h1 h2
  unfold Txt.cm at h1
  unfold isM_LaidError at h2
  by_cases e0 : n = "BadOutline"
  · subst e0; simp at h1 h2; subst h1 h2; exact T.q_BadOutline_LaidError
  simp [e0] at h1
theorem Txt.isi_ValueError (T : Txt K mg) : ∀ n C b, T.cm n = some C → isM_ValueError n = some b → PySem.W.kitOne K (.ref C) (.type "ValueError") = some b := by
  intro n C b h1 h2
  unfold Txt.cm at h1
  unfold isM_ValueError at h2
  by_cases e0 : n = "BadOutline"
  · subst e0; simp at h1 h2; subst h1 h2; exact T.q_BadOutline_ValueError
  simp [e0] at h1
theorem ox_BadOutline (T : Txt K mg) : FnOk P w K mg base (L2.CX P w) 1 T.fI_BadOutline T.fdI_BadOutline ["self", "ring", "point"] (spX2 K T.a_BadOutline "ring" "point") := xinit2 T.FI_BadOutline sc_BadOutline rfl rfl fun cdv A outer s H E => pss_cons (ps_ost (pv 0) (pv 1)) (pss_one (ps_ost (pv 0) (pv 2)))
theorem ok_edges_of (T : Txt K mg) : FnOk P w K mg base (L2.CX P w) 1 T.f_edges_of T.fd_edges_of ["ring"] (spD K T.cm [false] false F_edges_of)   := dok (G' := []) (k := 0) T.F_edges_of sc_edges_of rfl (by decide) fun cdv A outer s H E hr =>
  (ds_one (ds_ret gok0 rfl (de_pub (de_lc (own := [("k", 1)]) rfl sc_edges_of.nd (di_rng1 T.n_range (by rfl) (da_cons (de_bltn call_len cs_len (by rfl) T.n_len (by decide +kernel) (dm_bor (db_var 0 (pv 0) (.inl rfl)) dm_nil)) da_nil)) (blkOk_by (own := [("k", 1)]) (N := ["ring", "k"]) (sc := defScope s_edges_of) (by decide +kernel)) (fun _ _ _ _ _ => (dg_name 1 sc_edges_of.nd rfl (by first | exact Or.inl rfl | exact Or.inr rfl))) (fun _ _ _ _ _ => dt_nil) (fun _ _ _ _ _ => (de_tup (da_cons (de_ix (db_var 0 (pv 0) (.inl rfl)) (db_var 1 (pv 1) (.inl rfl)) (fun _ _ => rfl)) (da_cons (de_ix (db_var 0 (pv 0) (.inl rfl)) (db_of (de_op op_mod os_mod (db_of (de_op or_add os_add (db_var 1 (pv 1) (.inl rfl)) (db_of de_int))) (db_of (de_bltn call_len cs_len (by rfl) T.n_len (by decide +kernel) (dm_bor (db_var 0 (pv 0) (.inl rfl)) dm_nil))))) (fun _ _ => rfl)) da_nil))))))))

theorem ok_is_edge (T : Txt K mg) : FnOk P w K mg base (L2.CX P w) 1 T.f_is_edge T.fd_is_edge ["start", "end"] (spD K T.cm [false, false] false F_is_edge)   := dok (G' := []) (k := 0) T.F_is_edge sc_is_edge rfl (by decide) fun cdv A outer s H E hr =>
  (ds_cons (ds_par 2 3 gok0 rfl sc_is_edge.nd rfl rfl (by decide) rfl rfl (de_op op_sub os_sub (db_of (de_ix (db_var 1 (pv 1) (.inl rfl)) (db_of de_int) (fun _ _ => rfl))) (db_of (de_ix (db_var 0 (pv 0) (.inl rfl)) (db_of de_int) (fun _ _ => rfl)))) (de_op op_sub os_sub (db_of (de_ix (db_var 1 (pv 1) (.inl rfl)) (db_of de_int) (fun _ _ => rfl))) (db_of (de_ix (db_var 0 (pv 0) (.inl rfl)) (db_of de_int) (fun _ _ => rfl)))) (by rfl))
  (ds_cons (ds_if gok0 (PW.pt (dw_and (dt_cmp (or_eq hr.units) os_eq (db_var 2 (pv 2) (.inl rfl)) (db_of de_int) (nomark _)) (dw_and1 (dt_cmp (or_eq hr.units) os_eq (db_var 3 (pv 3) (.inl rfl)) (db_of de_int) (nomark _)))))
  (ds_one (ds_ret gok0 rfl de_bl))
  ds_nil)
  (ds_one (ds_ret gok0 rfl (de_or (de_cmp (or_eq hr.units) os_eq (db_var 2 (pv 2) (.inl rfl)) (db_of de_int) (nomark _)) (de_or (de_cmp (or_eq hr.units) os_eq (db_var 3 (pv 3) (.inl rfl)) (db_of de_int) (nomark _)) (de_one (de_cmp (or_eq hr.units) os_eq (db_of (de_bltn call_abs cs_abs (by rfl) T.n_abs (by decide +kernel) (dm_bor (db_var 2 (pv 2) (.inl rfl)) dm_nil))) (db_of (de_bltn call_abs cs_abs (by rfl) T.n_abs (by decide +kernel) (dm_bor (db_var 3 (pv 3) (.inl rfl)) dm_nil))) (nomark _)))))))))

theorem ok_check_outline (T : Txt K mg) : FnOk P w K mg base (L2.CX P w) 3 T.f_check_outline T.fd_check_outline ["outline"] (spD K T.cm [false] false F_check_outline)   := dok (k := 2) T.F_check_outline sc_check_outline rfl (by decide) fun cdv A outer s H E hr =>
  (ds_one (ds_for gok0 (passes_of rfl) rfl (di_enumT T.n_enumerate (by rfl) (de_var 0 (pv 0) rfl)) (dg_tup rfl (dg_cons (dg_name 1 sc_check_outline.nd rfl (by first | exact Or.inl rfl | exact Or.inr rfl)) (dg_cons (dg_name 2 sc_check_outline.nd rfl (by first | exact Or.inl rfl | exact Or.inr rfl)) dg_nil)))
  (ds_one (ds_for gok0 (passes_of rfl) rfl (di_enumL T.n_enumerate (by rfl) (de_callV (ok_edges_of T) (takes_of rfl rfl rfl rfl) (hr.mono (by decide)) (by rfl) T.g_edges_of T.F_edges_of.kp T.b_edges_of (dm_val (de_var 2 (pv 2) rfl) dm_nil))) (dg_tup rfl (dg_cons (dg_name 3 sc_check_outline.nd rfl (by first | exact Or.inl rfl | exact Or.inr rfl)) (dg_cons (dg_tup rfl (dg_cons (dg_name 4 sc_check_outline.nd rfl (by first | exact Or.inl rfl | exact Or.inr rfl)) (dg_cons (dg_name 5 sc_check_outline.nd rfl (by first | exact Or.inl rfl | exact Or.inr rfl)) dg_nil))) dg_nil)))
  (ds_one (ds_if gok0 (dt_not (dt_val (de_callV (ok_is_edge T) (takes_of rfl rfl rfl rfl) (hr.mono (by decide)) (by rfl) T.g_is_edge T.F_is_edge.kp T.b_is_edge (dm_val (de_var 4 (pv 4) rfl) (dm_val (de_var 5 (pv 5) rfl) dm_nil)))))
  (ds_one (ds_raise2 gok0 T.cm_BadOutline rfl (takes_of rfl rfl rfl rfl) T.o_BadOutline T.i_BadOutline T.ti_BadOutline T.no_BadOutline_ring T.no_BadOutline_point (ox_BadOutline T) (hr.mono (by decide)) T.b_BadOutline (by rfl) T.g_BadOutline (da_cons (de_var 1 (pv 1) rfl) (da_cons (de_var 3 (pv 3) rfl) da_nil))))
  ds_nil))))))

theorem ok_l_cell (T : Txt K mg) : FnOk P w K mg base (L2.CX P w) 1 T.f_l_cell T.fd_l_cell ["_law_script", "_law_k"] (spD K T.cm [false, false] false F_l_cell)   := dok (G' := []) (k := 0) T.F_l_cell sc_l_cell rfl (by decide) fun cdv A outer s H E hr =>
  (ds_cons (ds_if gok0 (dt_cmp or_lt os_ord (db_var 1 (pv 1) (.inl rfl)) (db_of (de_bltn call_len cs_len (by rfl) T.n_len (by decide +kernel) (dm_bor (db_var 0 (pv 0) (.inl rfl)) dm_nil))) (nomark _))
  (ds_one (ds_ret gok0 rfl (de_type cr_int cs_int (by rfl) T.n_int (by decide +kernel) (dm_bor (db_of (de_ix (db_var 0 (pv 0) (.inl rfl)) (db_var 1 (pv 1) (.inl rfl)) (fun _ _ => rfl))) dm_nil))))
  ds_nil)
  (ds_one (ds_ret gok0 rfl de_int)))

theorem ok_l_row (T : Txt K mg) : FnOk P w K mg base (L2.CX P w) 1 T.f_l_row T.fd_l_row ["_law_cell_here", "_law_limits"] (spD K T.cm [false, false] false F_l_row)   := dok (G' := []) (k := 0) T.F_l_row sc_l_row rfl (by decide) fun cdv A outer s H E hr =>
  (ds_cons (ds_setO 2 gok0 (by decide) sc_l_row.nd rfl (by first | exact Or.inl rfl | exact Or.inr rfl) (de_lst da_nil))
  (ds_cons (ds_if gok0 (dt_cmp or_ge os_ord (db_var 0 (pv 0) (.inl rfl)) (db_of de_int) (nomark _))
  (ds_cons (ds_set 3 gok0 sc_l_row.nd rfl (by first | exact Or.inl rfl | exact Or.inr rfl) (de_op op_sub os_sub (db_var 0 (pv 0) (.inl rfl)) (db_of de_int)))
  (ds_cons (ds_for gok0 (passes_of rfl) rfl (di_list (de_var 1 (pv 1) rfl)) (dg_name 4 sc_l_row.nd rfl (by first | exact Or.inl rfl | exact Or.inr rfl))
  (ds_cons (ds_app 2 gok0 rfl (pv 2) (de_op op_mod os_mod (db_of (de_type cr_int cs_int (by rfl) T.n_int (by decide +kernel) (dm_bor (db_var 3 (pv 3) (.inl rfl)) dm_nil))) (db_var 4 (pv 4) (.inl rfl))))
  (ds_one (ds_set 3 gok0 sc_l_row.nd rfl (by first | exact Or.inl rfl | exact Or.inr rfl) (de_op or_fdiv os_fdiv (db_var 3 (pv 3) (.inl rfl)) (db_var 4 (pv 4) (.inl rfl)))))))
  (ds_pub 2 (ds_one (ds_ret gok0 rfl (de_var 2 (pv 2) rfl))) (.inl rfl))))
  ds_nil)
  (ds_cons (ds_for gok0 (passes_of rfl) rfl (di_rng1 T.n_range (by rfl) (da_cons (de_bltn call_len cs_len (by rfl) T.n_len (by decide +kernel) (dm_bor (db_var 1 (pv 1) (.inl rfl)) dm_nil)) da_nil)) (dg_name 5 sc_l_row.nd rfl (by first | exact Or.inl rfl | exact Or.inr rfl))
  (ds_cons (ds_set 6 gok0 sc_l_row.nd rfl (by first | exact Or.inl rfl | exact Or.inr rfl) (de_op op_mod os_mod (db_of (de_type cr_int cs_int (by rfl) T.n_int (by decide +kernel) (dm_bor (db_of (de_op or_add os_add (db_of (de_op or_add os_add (db_of (de_op or_mul os_mul (db_var 0 (pv 0) (.inl rfl)) (db_of de_int))) (db_of (de_op or_mul os_mul (db_var 5 (pv 5) (.inl rfl)) (db_of de_int))))) (db_of de_int))) dm_nil))) (db_of de_int)))
  (ds_cons (ds_set 6 gok0 sc_l_row.nd rfl (by first | exact Or.inl rfl | exact Or.inr rfl) (de_op op_mod os_mod (db_of (de_type cr_int cs_int (by rfl) T.n_int (by decide +kernel) (dm_bor (db_of (de_op or_add os_add (db_of (de_op or_add os_add (db_of (de_op or_mul os_mul (db_var 6 (pv 6) (.inl rfl)) (db_of (de_op or_add os_add (db_of de_int) (db_of (de_op or_mul os_mul (db_of de_int) (db_var 5 (pv 5) (.inl rfl)))))))) (db_of (de_op or_mul os_mul (db_of (de_op or_mul os_mul (db_var 5 (pv 5) (.inl rfl)) (db_var 5 (pv 5) (.inl rfl)))) (db_of de_int))))) (db_of de_int))) dm_nil))) (db_of de_int)))
  (ds_one (ds_app 2 gok0 rfl (pv 2) (de_op op_mod os_mod (db_of (de_type cr_int cs_int (by rfl) T.n_int (by decide +kernel) (dm_bor (db_of (de_op or_fdiv os_fdiv (db_var 6 (pv 6) (.inl rfl)) (db_of de_int))) dm_nil))) (db_of (de_ix (db_var 1 (pv 1) (.inl rfl)) (db_var 5 (pv 5) (.inl rfl)) (fun _ _ => rfl)))))))))
  (ds_pub 2 (ds_one (ds_ret gok0 rfl (de_var 2 (pv 2) rfl))) (.inl rfl)))))

theorem ok_l_same (T : Txt K mg) : ∀ {n : Nat}, FnOk P w K mg base (L2.CX P w) (1 + n) T.f_l_same T.fd_l_same ["_law_one", "_law_two"] (spD K T.cm [true, true] false (F_l_same n))
  | 0 => fnok_bad
  | n + 1 => dok (G' := []) (k := 1 + n) T.F_l_same sc_l_same rfl (by decide) fun cdv A outer s H E hr => by
    have ih := fun T => ok_l_same T (n := n)
    exact (ds_cons (ds_if gok0 (dt_val (de_isi "int" T.n_isinstance (by rfl) (by rfl) T.n_int (by decide +kernel) (db_var 1 (pv 1) (.inr (.inr rfl)))))
  (ds_one (ds_ret gok0 rfl (de_and (de_isi "int" T.n_isinstance (by rfl) (by rfl) T.n_int (by decide +kernel) (db_var 0 (pv 0) (.inr (.inr rfl)))) (de_and (de_not (de_isi "bool" T.n_isinstance (by rfl) (by rfl) T.n_bool (by decide +kernel) (db_var 0 (pv 0) (.inr (.inr rfl))))) (de_one (de_cmp (or_eq hr.units) os_eq (db_var 0 (pv 0) (.inr (.inr rfl))) (db_var 1 (pv 1) (.inr (.inr rfl))) (nomark _)))))))
  ds_nil)
  (ds_cons (ds_if gok0 (dt_val (de_isi "str" T.n_isinstance (by rfl) (by rfl) T.n_str (by decide +kernel) (db_var 1 (pv 1) (.inr (.inr rfl)))))
  (ds_one (ds_ret gok0 rfl (de_and (de_isi "str" T.n_isinstance (by rfl) (by rfl) T.n_str (by decide +kernel) (db_var 0 (pv 0) (.inr (.inr rfl)))) (de_one (de_cmp (or_eq hr.units) os_eq (db_var 0 (pv 0) (.inr (.inr rfl))) (db_var 1 (pv 1) (.inr (.inr rfl))) (nomark _))))))
  ds_nil)
  (ds_cons (ds_if gok0 (PW.pt (dw_or (dt_not (dt_val (de_isi "tuple" T.n_isinstance (by rfl) (by rfl) T.n_tuple (by decide +kernel) (db_var 0 (pv 0) (.inr (.inr rfl)))))) (dw_or1 (dt_cmp (or_ne hr.units) os_ne (db_of (de_bltn call_len cs_len (by rfl) T.n_len (by decide +kernel) (dm_bor (db_var 0 (pv 0) (.inr (.inr rfl))) dm_nil))) (db_of (de_bltn call_len cs_len (by rfl) T.n_len (by decide +kernel) (dm_bor (db_var 1 (pv 1) (.inr (.inr rfl))) dm_nil))) (nomark _)))))
  (ds_one (ds_ret gok0 rfl de_bl))
  ds_nil)
  (ds_cons (ds_for gok0 (passes_of rfl) rfl (di_rng1 T.n_range (by rfl) (da_cons (de_bltn call_len cs_len (by rfl) T.n_len (by decide +kernel) (dm_bor (db_var 1 (pv 1) (.inr (.inr rfl))) dm_nil)) da_nil)) (dg_name 2 sc_l_same.nd rfl (by first | exact Or.inl rfl | exact Or.inr rfl))
  (ds_one (ds_if gok0 (dt_not (dt_val (de_callV (ih T) (takes_of rfl rfl rfl rfl) hr (by rfl) T.g_l_same T.F_l_same.kp T.b_l_same (dm_bor (db_of (de_ix (db_var 0 (pv 0) (.inr (.inr rfl))) (db_var 2 (pv 2) (.inl rfl)) (fun _ _ => rfl))) (dm_bor (db_of (de_ix (db_var 1 (pv 1) (.inr (.inr rfl))) (db_var 2 (pv 2) (.inl rfl)) (fun _ _ => rfl))) dm_nil)))))
  (ds_one (ds_ret gok0 rfl de_bl))
  ds_nil)))
  (ds_one (ds_ret gok0 rfl de_bl))))))

theorem ok_l_reach (T : Txt K mg) : FnOk P w K mg base (L2.CX P w) 1 T.f_l_reach T.fd_l_reach ["_law_point"] (spD K T.cm [false] false F_l_reach)   := dok (G' := []) (k := 0) T.F_l_reach sc_l_reach rfl (by decide) fun cdv A outer s H E hr =>
  (ds_cons (ds_setO 1 gok0 (by decide) sc_l_reach.nd rfl (by first | exact Or.inl rfl | exact Or.inr rfl) (de_lst da_nil))
  (ds_cons (ds_for gok0 (passes_of rfl) rfl (di_rng2 T.n_range (by rfl) (da_cons de_int (da_cons de_int da_nil))) (dg_name 2 sc_l_reach.nd rfl (by first | exact Or.inl rfl | exact Or.inr rfl))
  (ds_one (ds_for gok0 (passes_of rfl) rfl (di_list (de_pub (de_lst (da_cons (de_tup (da_cons de_int (da_cons de_int da_nil))) (da_cons (de_tup (da_cons de_int (da_cons de_int da_nil))) (da_cons (de_tup (da_cons de_int (da_cons de_int da_nil))) (da_cons (de_tup (da_cons (de_neg de_int) (da_cons de_int da_nil))) (da_cons (de_tup (da_cons (de_neg de_int) (da_cons de_int da_nil))) (da_cons (de_tup (da_cons (de_neg de_int) (da_cons (de_neg de_int) da_nil))) (da_cons (de_tup (da_cons de_int (da_cons (de_neg de_int) da_nil))) (da_cons (de_tup (da_cons de_int (da_cons (de_neg de_int) da_nil))) da_nil))))))))))) (dg_tup rfl (dg_cons (dg_name 3 sc_l_reach.nd rfl (by first | exact Or.inl rfl | exact Or.inr rfl)) (dg_cons (dg_name 4 sc_l_reach.nd rfl (by first | exact Or.inl rfl | exact Or.inr rfl)) dg_nil)))
  (ds_cons (ds_par 5 6 gok0 rfl sc_l_reach.nd rfl rfl (by decide) rfl rfl (de_op or_add os_add (db_of (de_ix (db_var 0 (pv 0) (.inl rfl)) (db_of de_int) (fun _ _ => rfl))) (db_of (de_op or_mul os_mul (db_var 2 (pv 2) (.inl rfl)) (db_var 3 (pv 3) (.inl rfl))))) (de_op or_add os_add (db_of (de_ix (db_var 0 (pv 0) (.inl rfl)) (db_of de_int) (fun _ _ => rfl))) (db_of (de_op or_mul os_mul (db_var 2 (pv 2) (.inl rfl)) (db_var 4 (pv 4) (.inl rfl))))) (by rfl))
  (ds_one (ds_if gok0 (PW.pt (dw_and (dt_chain or_le os_ord or_le os_ord (db_of de_int) (db_var 5 (pv 5) (.inl rfl)) (db_of de_int)) (dw_and1 (dt_chain or_le os_ord or_le os_ord (db_of de_int) (db_var 6 (pv 6) (.inl rfl)) (db_of de_int)))))
  (ds_one (ds_app 1 gok0 rfl (pv 1) (de_tup (da_cons (de_var 5 (pv 5) rfl) (da_cons (de_var 6 (pv 6) rfl) da_nil)))))
  ds_nil))))))
  (ds_pub 1 (ds_one (ds_ret gok0 rfl (de_var 1 (pv 1) rfl))) (.inl rfl))))

theorem ok_l_ring (T : Txt K mg) : FnOk P w K mg base (L2.CX P w) 2 T.f_l_ring T.fd_l_ring ["_law_cell_here"] (spD K T.cm [false] false F_l_ring)   := dok (G' := []) (k := 1) T.F_l_ring sc_l_ring rfl (by decide) fun cdv A outer s H E hr =>
  (ds_cons (ds_set 1 gok0 sc_l_ring.nd rfl (by first | exact Or.inl rfl | exact Or.inr rfl) (de_callV (ok_l_row T) (takes_of rfl rfl rfl rfl) (hr.mono (by decide)) (by rfl) T.g_l_row T.F_l_row.kp T.b_l_row (dm_val (de_var 0 (pv 0) rfl) (dm_val (de_op or_add os_add (db_own (de_lst (da_cons de_int (da_cons de_int (da_cons de_int (da_cons de_int da_nil)))))) (db_of (de_op or_mul os_mul (db_own (de_lst (da_cons de_int da_nil))) (db_of de_int)))) dm_nil))))
  (ds_cons (ds_setO 2 gok0 (by decide) sc_l_ring.nd rfl (by first | exact Or.inl rfl | exact Or.inr rfl) (de_lst (da_cons (de_tup (da_cons (de_ix (db_var 1 (pv 1) (.inl rfl)) (db_of de_int) (fun _ _ => rfl)) (da_cons (de_ix (db_var 1 (pv 1) (.inl rfl)) (db_of de_int) (fun _ _ => rfl)) da_nil))) da_nil)))
  (ds_cons (ds_set 3 gok0 sc_l_ring.nd rfl (by first | exact Or.inl rfl | exact Or.inr rfl) (de_callV (ok_l_reach T) (takes_of rfl rfl rfl rfl) (hr.mono (by decide)) (by rfl) T.g_l_reach T.F_l_reach.kp T.b_l_reach (dm_val (de_ix (db_var 2 (pv 2) (.inr (.inl rfl))) (db_of de_int) (fun _ _ => rfl)) dm_nil)))
  (ds_cons (ds_for gok0 (passes_of rfl) rfl (di_rng1 T.n_range (by rfl) (da_cons (de_op or_add os_add (db_of (de_ix (db_var 1 (pv 1) (.inl rfl)) (db_of de_int) (fun _ _ => rfl))) (db_of de_int)) da_nil)) (dg_name 4 sc_l_ring.nd rfl (by first | exact Or.inl rfl | exact Or.inr rfl))
  (ds_cons (ds_set 5 gok0 sc_l_ring.nd rfl (by first | exact Or.inl rfl | exact Or.inr rfl) (de_callV (ok_l_reach T) (takes_of rfl rfl rfl rfl) (hr.mono (by decide)) (by rfl) T.g_l_reach T.F_l_reach.kp T.b_l_reach (dm_val (de_ix (db_var 2 (pv 2) (.inr (.inl rfl))) (db_of (de_neg de_int)) (fun _ _ => rfl)) dm_nil)))
  (ds_cons (ds_if gok0 (dt_cmp (or_eq hr.units) os_eq (db_var 4 (pv 4) (.inl rfl)) (db_of (de_op or_add os_add (db_of (de_ix (db_var 1 (pv 1) (.inl rfl)) (db_of de_int) (fun _ _ => rfl))) (db_of de_int))) (nomark _))
  (ds_pubE 5 (ds_one (ds_setLc 5 gok0 (by decide) rfl sc_l_ring.nd rfl rfl (sw_true rfl rfl rfl (by decide +kernel)) (own := [("_law_point", 6)]) (di_list (de_var 5 (pv 5) rfl)) (blkOk_by (own := [("_law_point", 6)]) (N := ["_law_cell_here", "_law_row_here", "_law_ring_here", "_law_back", "_law_k", "_law_options", "_law_point"]) (sc := defScope s_l_ring) (by decide +kernel)) (fun _ _ _ _ _ => (dg_name 6 sc_l_ring.nd rfl (by first | exact Or.inl rfl | exact Or.inr rfl))) (fun _ _ _ _ _ => (dt_one (dt_cmp (or_in (hu65 hr)) os_in (db_var 6 (pv 6) (.inl rfl)) (db_var 3 (pv 3) (.inl rfl)) (by rfl)))) (fun _ _ _ _ _ => (de_var 6 (pv 6) rfl)))) (.inl rfl))
  ds_nil)
  (ds_cons (ds_if gok0 (dt_cmp (or_eq hr.units) os_eq (db_of (de_ix (db_var 1 (pv 1) (.inl rfl)) (db_of de_int) (fun _ _ => rfl))) (db_of de_int) (nomark _))
  (ds_one (ds_set 5 gok0 sc_l_ring.nd rfl (by first | exact Or.inl rfl | exact Or.inr rfl) (de_sl (db_var 5 (pv 5) (.inl rfl)) dp_none (dp_some de_int))))
  ds_nil)
  (ds_one (ds_app 2 gok0 rfl (pv 2) (de_ix (db_var 5 (pv 5) (.inl rfl)) (db_of (de_op op_mod os_mod (db_of (de_type cr_int cs_int (by rfl) T.n_int (by decide +kernel) (dm_bor (db_of (de_ix (db_var 1 (pv 1) (.inl rfl)) (db_of (de_op or_add os_add (db_var 4 (pv 4) (.inl rfl)) (db_of de_int))) (fun _ _ => rfl))) dm_nil))) (db_of (de_bltn call_len cs_len (by rfl) T.n_len (by decide +kernel) (dm_bor (db_var 5 (pv 5) (.inl rfl)) dm_nil))))) (fun _ _ => rfl))))))))
  (ds_one (ds_ret gok0 rfl (de_type call_tuple_of cs_tuple (by rfl) T.n_tuple (by decide +kernel) (dm_bor (db_var 2 (pv 2) (.inr (.inl rfl))) dm_nil))))))))

theorem ok_l_spoilt (T : Txt K mg) : FnOk P w K mg base (L2.CX P w) 2 T.f_l_spoilt T.fd_l_spoilt ["_law_rings", "_law_row_here"] (spD K T.cm [false, false] false F_l_spoilt)   := dok (G' := []) (k := 1) T.F_l_spoilt sc_l_spoilt rfl (by decide) fun cdv A outer s H E hr =>
  (ds_cons (ds_setSLc 2 gok0 (by decide) (noSW_of rfl) rfl sc_l_spoilt.nd rfl rfl (sw_true rfl rfl rfl (by decide +kernel)) (own := [("_law_ring_here", 3)]) (di_list (de_var 0 (pv 0) rfl)) (blkOk_by (own := [("_law_ring_here", 3)]) (N := ["_law_rings", "_law_row_here", "_law_out", "_law_ring_here", "_law_k", "_law_at", "_law_x", "_law_y", "_law_options"]) (sc := defScope s_l_spoilt) (by decide +kernel)) (fun _ _ _ _ _ => (dg_name 3 sc_l_spoilt.nd rfl (by first | exact Or.inl rfl | exact Or.inr rfl))) (fun _ _ _ _ _ => dt_nil) (fun _ _ _ _ _ => (de_type call_list_of cs_list (by rfl) T.n_list (by decide +kernel) (dm_bor (db_var 3 (pv 3) (.inl rfl)) dm_nil))))
  (ds_kw 3 rfl (ds_cons (ds_for gok0 (passes_of rfl) rfl (di_rng1 T.n_range (by rfl) (da_cons (de_ix (db_var 1 (pv 1) (.inl rfl)) (db_of de_int) (fun _ _ => rfl)) da_nil)) (dg_name 4 sc_l_spoilt.nd rfl (by first | exact Or.inl rfl | exact Or.inr rfl))
  (ds_one (ds_if gok0 (dt_cmp or_gt os_ord (db_of (de_wlen 2 rfl T.n_len (by rfl) (dw_root 2 (pv 2) rfl))) (db_of de_int) (nomark _))
  (ds_cons (ds_ali 3 gok0 (by decide) sc_l_spoilt.nd rfl (by first | exact Or.inl rfl | exact Or.inr rfl) (dw_at 2 rfl (dw_root 2 (pv 2) rfl) (de_op op_mod os_mod (db_of (de_type cr_int cs_int (by rfl) T.n_int (by decide +kernel) (dm_bor (db_of (de_ix (db_var 1 (pv 1) (.inl rfl)) (db_of (de_op or_add os_add (db_of (de_op or_mul os_mul (db_of de_int) (db_var 4 (pv 4) (.inl rfl)))) (db_of de_int))) (fun _ _ => rfl))) dm_nil))) (db_of (de_wlen 2 rfl T.n_len (by rfl) (dw_root 2 (pv 2) rfl)))) (fun _ _ => rfl)))
  (ds_cons (ds_set 5 gok0 sc_l_spoilt.nd rfl (by first | exact Or.inl rfl | exact Or.inr rfl) (de_op op_mod os_mod (db_of (de_type cr_int cs_int (by rfl) T.n_int (by decide +kernel) (dm_bor (db_of (de_ix (db_var 1 (pv 1) (.inl rfl)) (db_of (de_op or_add os_add (db_of (de_op or_mul os_mul (db_of de_int) (db_var 4 (pv 4) (.inl rfl)))) (db_of de_int))) (fun _ _ => rfl))) dm_nil))) (db_of (de_bltn call_len cs_len (by rfl) T.n_len (by decide +kernel) (dm_bor (db_row 2 rfl (dw_var 3 (pv 3) rfl)) dm_nil)))))
  (ds_cons (ds_if gok0 (dt_cmp or_ge os_ord (db_of (de_ix (db_var 1 (pv 1) (.inl rfl)) (db_of (de_op or_add os_add (db_of (de_op or_mul os_mul (db_of de_int) (db_var 4 (pv 4) (.inl rfl)))) (db_of de_int))) (fun _ _ => rfl))) (db_of de_int) (nomark _))
  (ds_one (ds_set 5 gok0 sc_l_spoilt.nd rfl (by first | exact Or.inl rfl | exact Or.inr rfl) (de_op op_sub os_sub (db_of (de_bltn call_len cs_len (by rfl) T.n_len (by decide +kernel) (dm_bor (db_row 2 rfl (dw_var 3 (pv 3) rfl)) dm_nil))) (db_of de_int))))
  ds_nil)
  (ds_cons (ds_par 6 7 gok0 rfl sc_l_spoilt.nd rfl rfl (by decide) rfl rfl (de_ix (db_var 1 (pv 1) (.inl rfl)) (db_of (de_op or_add os_add (db_of (de_op or_mul os_mul (db_of de_int) (db_var 4 (pv 4) (.inl rfl)))) (db_of de_int))) (fun _ _ => rfl)) (de_ix (db_var 1 (pv 1) (.inl rfl)) (db_of (de_op or_add os_add (db_of (de_op or_mul os_mul (db_of de_int) (db_var 4 (pv 4) (.inl rfl)))) (db_of de_int))) (fun _ _ => rfl)) (by rfl))
  (ds_one (ds_if gok0 (dt_cmp (or_eq hr.units) os_eq (db_of (de_ix (db_var 1 (pv 1) (.inl rfl)) (db_of (de_op or_add os_add (db_of (de_op or_mul os_mul (db_of de_int) (db_var 4 (pv 4) (.inl rfl)))) (db_of de_int))) (fun _ _ => rfl))) (db_of de_int) (nomark _))
  (ds_one (ds_wsto 2 gok0 rfl (onlyS_of rfl) (dw_var 3 (pv 3) rfl) (de_var 5 (pv 5) rfl) (de_tup (da_cons (de_var 6 (pv 6) rfl) (da_cons (de_var 7 (pv 7) rfl) da_nil)))))
  (ds_one (ds_if gok0 (dt_cmp (or_eq hr.units) os_eq (db_of (de_ix (db_var 1 (pv 1) (.inl rfl)) (db_of (de_op or_add os_add (db_of (de_op or_mul os_mul (db_of de_int) (db_var 4 (pv 4) (.inl rfl)))) (db_of de_int))) (fun _ _ => rfl))) (db_of de_int) (nomark _))
  (ds_one (ds_wsto 2 gok0 rfl (onlyS_of rfl) (dw_var 3 (pv 3) rfl) (de_var 5 (pv 5) rfl) (de_ix (db_row 2 rfl (dw_var 3 (pv 3) rfl)) (db_of (de_op op_mod os_mod (db_of (de_type cr_int cs_int (by rfl) T.n_int (by decide +kernel) (dm_bor (db_of (de_op or_add os_add (db_var 5 (pv 5) (.inl rfl)) (db_of de_int))) dm_nil))) (db_of (de_bltn call_len cs_len (by rfl) T.n_len (by decide +kernel) (dm_bor (db_row 2 rfl (dw_var 3 (pv 3) rfl)) dm_nil))))) (fun _ _ => rfl))))
  (ds_one (ds_if gok0 (dt_cmp (or_eq hr.units) os_eq (db_of (de_ix (db_var 1 (pv 1) (.inl rfl)) (db_of (de_op or_add os_add (db_of (de_op or_mul os_mul (db_of de_int) (db_var 4 (pv 4) (.inl rfl)))) (db_of de_int))) (fun _ _ => rfl))) (db_of de_int) (nomark _))
  (ds_one (ds_wsto 2 gok0 rfl (onlyS_of rfl) (dw_var 3 (pv 3) rfl) (de_var 5 (pv 5) rfl) (de_tup (da_cons (de_var 6 (pv 6) rfl) (da_cons (de_ix (db_of (de_ix (db_row 2 rfl (dw_var 3 (pv 3) rfl)) (db_var 5 (pv 5) (.inl rfl)) (fun _ _ => rfl))) (db_of de_int) (fun _ _ => rfl)) da_nil)))))
  (ds_cons (ds_set 8 gok0 sc_l_spoilt.nd rfl (by first | exact Or.inl rfl | exact Or.inr rfl) (de_callV (ok_l_reach T) (takes_of rfl rfl rfl rfl) (hr.mono (by decide)) (by rfl) T.g_l_reach T.F_l_reach.kp T.b_l_reach (dm_val (de_ix (db_row 2 rfl (dw_var 3 (pv 3) rfl)) (db_of (de_op op_sub os_sub (db_var 5 (pv 5) (.inl rfl)) (db_of de_int))) (fun _ _ => rfl)) dm_nil)))
  (ds_one (ds_wsto 2 gok0 rfl (onlyS_of rfl) (dw_var 3 (pv 3) rfl) (de_var 5 (pv 5) rfl) (de_ix (db_var 8 (pv 8) (.inl rfl)) (db_of (de_op op_mod os_mod (db_of (de_type cr_int cs_int (by rfl) T.n_int (by decide +kernel) (dm_bor (db_of (de_op or_add os_add (db_of (de_op or_mul os_mul (db_of de_int) (db_var 6 (pv 6) (.inl rfl)))) (db_var 7 (pv 7) (.inl rfl)))) dm_nil))) (db_of (de_bltn call_len cs_len (by rfl) T.n_len (by decide +kernel) (dm_bor (db_var 8 (pv 8) (.inl rfl)) dm_nil))))) (fun _ _ => rfl)))))))))))))))
  ds_nil)))
  (ds_pubS 4 2 [3] rfl (noSW_of rfl) (ds_one (ds_ret gok0 rfl (de_type call_tuple_of cs_tuple (by rfl) T.n_tuple (by decide +kernel) (dm_bor (db_own (de_lc (own := [("_law_ring_here", 3)]) rfl sc_l_spoilt.nd (di_list (de_var 2 (pv 2) rfl)) (blkOk_by (own := [("_law_ring_here", 3)]) (N := ["_law_rings", "_law_row_here", "_law_out", "_law_ring_here", "_law_k", "_law_at", "_law_x", "_law_y", "_law_options"]) (sc := defScope s_l_spoilt) (by decide +kernel)) (fun _ _ _ _ _ => (dg_name 3 sc_l_spoilt.nd rfl (by first | exact Or.inl rfl | exact Or.inr rfl))) (fun _ _ _ _ _ => dt_nil) (fun _ _ _ _ _ => (de_type call_tuple_of cs_tuple (by rfl) T.n_tuple (by decide +kernel) (dm_bor (db_var 3 (pv 3) (.inl rfl)) dm_nil))))) dm_nil))))))))

theorem ok_l_first_bad (T : Txt K mg) : FnOk P w K mg base (L2.CX P w) 1 T.f_l_first_bad T.fd_l_first_bad ["_law_outline"] (spD K T.cm [false] false F_l_first_bad)   := dok (G' := []) (k := 0) T.F_l_first_bad sc_l_first_bad rfl (by decide) fun cdv A outer s H E hr =>
  (ds_cons (ds_for gok0 (passes_of rfl) rfl (di_rng1 T.n_range (by rfl) (da_cons (de_bltn call_len cs_len (by rfl) T.n_len (by decide +kernel) (dm_bor (db_var 0 (pv 0) (.inl rfl)) dm_nil)) da_nil)) (dg_name 1 sc_l_first_bad.nd rfl (by first | exact Or.inl rfl | exact Or.inr rfl))
  (ds_cons (ds_set 2 gok0 sc_l_first_bad.nd rfl (by first | exact Or.inl rfl | exact Or.inr rfl) (de_ix (db_var 0 (pv 0) (.inl rfl)) (db_var 1 (pv 1) (.inl rfl)) (fun _ _ => rfl)))
  (ds_one (ds_for gok0 (passes_of rfl) rfl (di_rng1 T.n_range (by rfl) (da_cons (de_bltn call_len cs_len (by rfl) T.n_len (by decide +kernel) (dm_bor (db_var 2 (pv 2) (.inl rfl)) dm_nil)) da_nil)) (dg_name 3 sc_l_first_bad.nd rfl (by first | exact Or.inl rfl | exact Or.inr rfl))
  (ds_cons (ds_asg gok0 (de_ix (db_var 2 (pv 2) (.inl rfl)) (db_var 3 (pv 3) (.inl rfl)) (fun _ _ => rfl)) (dg_tup rfl (dg_cons (dg_name 4 sc_l_first_bad.nd rfl (by first | exact Or.inl rfl | exact Or.inr rfl)) (dg_cons (dg_name 5 sc_l_first_bad.nd rfl (by first | exact Or.inl rfl | exact Or.inr rfl)) dg_nil))))
  (ds_cons (ds_asg gok0 (de_ix (db_var 2 (pv 2) (.inl rfl)) (db_of (de_op op_mod os_mod (db_of (de_type cr_int cs_int (by rfl) T.n_int (by decide +kernel) (dm_bor (db_of (de_op or_add os_add (db_var 3 (pv 3) (.inl rfl)) (db_of de_int))) dm_nil))) (db_of (de_bltn call_len cs_len (by rfl) T.n_len (by decide +kernel) (dm_bor (db_var 2 (pv 2) (.inl rfl)) dm_nil))))) (fun _ _ => rfl)) (dg_tup rfl (dg_cons (dg_name 6 sc_l_first_bad.nd rfl (by first | exact Or.inl rfl | exact Or.inr rfl)) (dg_cons (dg_name 7 sc_l_first_bad.nd rfl (by first | exact Or.inl rfl | exact Or.inr rfl)) dg_nil))))
  (ds_cons (ds_par 8 9 gok0 rfl sc_l_first_bad.nd rfl rfl (by decide) rfl rfl (de_bltn call_abs cs_abs (by rfl) T.n_abs (by decide +kernel) (dm_bor (db_of (de_op op_sub os_sub (db_var 6 (pv 6) (.inl rfl)) (db_var 4 (pv 4) (.inl rfl)))) dm_nil)) (de_bltn call_abs cs_abs (by rfl) T.n_abs (by decide +kernel) (dm_bor (db_of (de_op op_sub os_sub (db_var 7 (pv 7) (.inl rfl)) (db_var 5 (pv 5) (.inl rfl)))) dm_nil)) (by rfl))
  (ds_one (ds_if gok0 (PW.pt (dw_or (PW.pt (dw_and (dt_cmp (or_eq hr.units) os_eq (db_var 8 (pv 8) (.inl rfl)) (db_of de_int) (nomark _)) (dw_and1 (dt_cmp (or_eq hr.units) os_eq (db_var 9 (pv 9) (.inl rfl)) (db_of de_int) (nomark _))))) (dw_or1 (PW.pt (dw_and (dt_cmp (or_ne hr.units) os_ne (db_var 8 (pv 8) (.inl rfl)) (db_of de_int) (nomark _)) (dw_and (dt_cmp (or_ne hr.units) os_ne (db_var 9 (pv 9) (.inl rfl)) (db_of de_int) (nomark _)) (dw_and1 (dt_cmp (or_ne hr.units) os_ne (db_var 8 (pv 8) (.inl rfl)) (db_var 9 (pv 9) (.inl rfl)) (nomark _)))))))))
  (ds_one (ds_ret gok0 rfl (de_tup (da_cons de_str (da_cons (de_var 1 (pv 1) rfl) (da_cons (de_var 3 (pv 3) rfl) da_nil))))))
  ds_nil)))))))))
  (ds_one (ds_ret gok0 rfl (de_tup (da_cons de_str da_nil)))))

theorem ok_l_told (T : Txt K mg) : FnOk P w K mg base (L2.CX P w) 4 T.f_l_told T.fd_l_told ["_law_outline"] (spD K T.cm [false] false F_l_told)   := dok (G' := []) (k := 3) T.F_l_told sc_l_told rfl (by decide) fun cdv A outer s H E hr =>
  (ds_cons (ds_try (isM := isM_BadOutline) (Gs := [.v, .v, .v]) gok0 rfl rfl sc_l_told.nd rfl rfl ⟨by rfl, by decide, .inl T.g_BadOutline⟩ (takes_of rfl rfl rfl rfl) (by decide) T.exm_BadOutline (fun W pn xe tk po => (ds_one (ds_set 1 gokT sc_l_told.nd rfl (by first | exact Or.inl rfl | exact Or.inr rfl) (de_callV (ok_check_outline T) tk (hr.mono (by decide)) (by rfl) T.g_check_outline T.F_check_outline.kp T.b_check_outline (dm_val (de_var 0 (pv 0) rfl) dm_nil)))))
  (fun a C dd oe pn hin hz hf => (ds_cons (ds_if gokC (PW.pt (dw_or (dt_not (dt_val (de_isX (v := .ref T.a_LaidError) (cv := .ref T.a_LaidError) (isM := isM_LaidError) rfl (T.xc_of_BadOutline hin) hz hf (fun _ h => h) (fun n b h1 h2 => T.isi_LaidError n _ b h1 h2) T.n_isinstance (by rfl) (pv 2) (pe_glob (by rfl) T.g_LaidError rfl)))) (dw_or1 (dt_not (dt_val (de_isX (v := .ty "ValueError") (cv := .type "ValueError") (isM := isM_ValueError) rfl (T.xc_of_BadOutline hin) hz hf (fun _ h => h) (fun n b h1 h2 => T.isi_ValueError n _ b h1 h2) T.n_isinstance (by rfl) (pv 2) (pe_bltn (u := .type "ValueError") (by rfl) T.n_ValueError (by decide +kernel) rfl)))))))
  (ds_one (ds_ret gokC rfl (de_tup (da_cons de_str da_nil))))
  ds_nil)
  (ds_cons (ds_if gokC (PW.pt (dw_or (dt_val (de_isX (v := .ref T.a_BadFace) (cv := .ref T.a_BadFace) (isM := isM_BadFace) rfl (T.xc_of_BadOutline hin) hz hf (fun _ h => h) (fun n b h1 h2 => T.isi_BadFace n _ b h1 h2) T.n_isinstance (by rfl) (pv 2) (pe_glob (by rfl) T.g_BadFace rfl))) (dw_or1 (dt_val (de_isX (v := .ref T.a_BadLine) (cv := .ref T.a_BadLine) (isM := isM_BadLine) rfl (T.xc_of_BadOutline hin) hz hf (fun _ h => h) (fun n b h1 h2 => T.isi_BadLine n _ b h1 h2) T.n_isinstance (by rfl) (pv 2) (pe_glob (by rfl) T.g_BadLine rfl))))))
  (ds_one (ds_ret gokC rfl (de_tup (da_cons de_str da_nil))))
  ds_nil)
  (ds_one (ds_ret gokC rfl (de_tup (da_cons de_str (da_cons (de_xf (T.xf_of_BadOutline hin) (T.no_of_BadOutline_ring hin) rfl hz hf (pv 2)) (da_cons (de_xf (T.xf_of_BadOutline hin) (T.no_of_BadOutline_point hin) rfl hz hf (pv 2)) da_nil))))))))) rfl rfl)
  (ds_cons (ds_if gok0 (dt_cmp op_isN os_is (db_var 1 (pv 1) (.inl rfl)) (db_of de_non) (nomark _))
  (ds_one (ds_ret gok0 rfl (de_tup (da_cons de_str da_nil))))
  ds_nil)
  (ds_one (ds_ret gok0 rfl (de_tup (da_cons de_str da_nil))))))

theorem ok_law (T : Txt K mg) : FnOk P w K mg base (L2.CX P w) 5 T.f_law T.fd_law ["_law_script"] (spD K T.cm [false] false F_law)   := dok (G' := []) (k := 4) T.F_law sc_law rfl (by decide) fun cdv A outer s H E hr =>
  (ds_cons (ds_set 1 gok0 sc_law.nd rfl (by first | exact Or.inl rfl | exact Or.inr rfl) (de_callV (ok_l_row T) (takes_of rfl rfl rfl rfl) (hr.mono (by decide)) (by rfl) T.g_l_row T.F_l_row.kp T.b_l_row (dm_val (de_callV (ok_l_cell T) (takes_of rfl rfl rfl rfl) (hr.mono (by decide)) (by rfl) T.g_l_cell T.F_l_cell.kp T.b_l_cell (dm_val (de_var 0 (pv 0) rfl) (dm_val de_int dm_nil))) (dm_val (de_op or_add os_add (db_own (de_lst (da_cons de_int (da_cons de_int da_nil)))) (db_of (de_op or_mul os_mul (db_own (de_lst (da_cons de_int (da_cons de_int (da_cons de_int (da_cons de_int (da_cons de_int da_nil))))))) (db_of de_int)))) dm_nil))))
  (ds_cons (ds_set 2 gok0 sc_law.nd rfl (by first | exact Or.inl rfl | exact Or.inr rfl) (de_ix (db_own (de_lst (da_cons de_int (da_cons de_int (da_cons de_int (da_cons de_int (da_cons de_int (da_cons de_int (da_cons de_int da_nil))))))))) (db_of (de_ix (db_var 1 (pv 1) (.inl rfl)) (db_of de_int) (fun _ _ => rfl))) (fun _ _ => rfl)))
  (ds_cons (ds_setLc 3 gok0 (by decide) rfl sc_law.nd rfl rfl (sw_true rfl rfl rfl (by decide +kernel)) (own := [("_law_k", 4)]) (di_rng1 T.n_range (by rfl) (da_cons (de_var 2 (pv 2) rfl) da_nil)) (blkOk_by (own := [("_law_k", 4)]) (N := ["_law_script", "_law_row_here", "_law_many", "_law_rings", "_law_k", "_law_spoilt_here", "_law_turn"]) (sc := defScope s_law) (by decide +kernel)) (fun _ _ _ _ _ => (dg_name 4 sc_law.nd rfl (by first | exact Or.inl rfl | exact Or.inr rfl))) (fun _ _ _ _ _ => dt_nil) (fun _ _ _ _ _ => (de_callV (ok_l_ring T) takes0 (hr.mono (by decide)) (by rfl) T.g_l_ring T.F_l_ring.kp T.b_l_ring (dm_val (de_op or_add os_add (db_of (de_callV (ok_l_cell T) takes0 (hr.mono (by decide)) (by rfl) T.g_l_cell T.F_l_cell.kp T.b_l_cell (dm_val (de_var 0 (pv 0) rfl) (dm_val (de_op or_add os_add (db_var 4 (pv 4) (.inl rfl)) (db_of de_int)) dm_nil)))) (db_of (de_op or_mul os_mul (db_of de_int) (db_var 4 (pv 4) (.inl rfl))))) dm_nil))))
  (ds_pub 3 (ds_cons (ds_set 5 gok0 sc_law.nd rfl (by first | exact Or.inl rfl | exact Or.inr rfl) (de_callV (ok_l_spoilt T) (takes_of rfl rfl rfl rfl) (hr.mono (by decide)) (by rfl) T.g_l_spoilt T.F_l_spoilt.kp T.b_l_spoilt (dm_val (de_var 3 (pv 3) rfl) (dm_val (de_var 1 (pv 1) rfl) dm_nil))))
  (ds_cons (ds_for gok0 (passes_of rfl) rfl (di_rng1 T.n_range (by rfl) (da_cons de_int da_nil)) (dg_name 6 sc_law.nd rfl (by first | exact Or.inl rfl | exact Or.inr rfl))
  (ds_cons (ds_if gok0 (dt_not (dt_val (de_callV (ok_l_same (n := 3) T) (takes_of rfl rfl rfl rfl) (hr.mono (by decide)) (by rfl) T.g_l_same T.F_l_same.kp T.b_l_same (dm_bor (db_of (de_callV (ok_l_told T) (takes_of rfl rfl rfl rfl) (hr.mono (by decide)) (by rfl) T.g_l_told T.F_l_told.kp T.b_l_told (dm_val (de_type call_tuple_of cs_tuple (by rfl) T.n_tuple (by decide +kernel) (dm_bor (db_var 3 (pv 3) (.inl rfl)) dm_nil)) dm_nil))) (dm_bor (db_of (de_tup (da_cons de_str da_nil))) dm_nil)))))
  (ds_one (ds_ret gok0 rfl de_bl))
  ds_nil)
  (ds_cons (ds_if gok0 (dt_not (dt_val (de_callV (ok_l_same (n := 3) T) (takes_of rfl rfl rfl rfl) (hr.mono (by decide)) (by rfl) T.g_l_same T.F_l_same.kp T.b_l_same (dm_bor (db_of (de_callV (ok_l_told T) (takes_of rfl rfl rfl rfl) (hr.mono (by decide)) (by rfl) T.g_l_told T.F_l_told.kp T.b_l_told (dm_val (de_var 5 (pv 5) rfl) dm_nil))) (dm_bor (db_of (de_callV (ok_l_first_bad T) (takes_of rfl rfl rfl rfl) (hr.mono (by decide)) (by rfl) T.g_l_first_bad T.F_l_first_bad.kp T.b_l_first_bad (dm_val (de_var 5 (pv 5) rfl) dm_nil))) dm_nil)))))
  (ds_one (ds_ret gok0 rfl de_bl))
  ds_nil)
  (ds_cons (ds_for gok0 (passes_of rfl) rfl (di_rng1 T.n_range (by rfl) (da_cons (de_bltn call_len cs_len (by rfl) T.n_len (by decide +kernel) (dm_bor (db_var 3 (pv 3) (.inl rfl)) dm_nil)) da_nil)) (dg_name 4 sc_law.nd rfl (by first | exact Or.inl rfl | exact Or.inr rfl))
  (ds_cons (ds_if gok0 (dt_not (dt_val (de_callV (ok_l_same (n := 3) T) (takes_of rfl rfl rfl rfl) (hr.mono (by decide)) (by rfl) T.g_l_same T.F_l_same.kp T.b_l_same (dm_bor (db_of (de_callV (ok_l_told T) (takes_of rfl rfl rfl rfl) (hr.mono (by decide)) (by rfl) T.g_l_told T.F_l_told.kp T.b_l_told (dm_val (de_tup (da_cons (de_ix (db_var 3 (pv 3) (.inl rfl)) (db_var 4 (pv 4) (.inl rfl)) (fun _ _ => rfl)) da_nil)) dm_nil))) (dm_bor (db_of (de_tup (da_cons de_str da_nil))) dm_nil)))))
  (ds_one (ds_ret gok0 rfl de_bl))
  ds_nil)
  (ds_one (ds_if gok0 (dt_not (dt_val (de_callV (ok_l_same (n := 3) T) (takes_of rfl rfl rfl rfl) (hr.mono (by decide)) (by rfl) T.g_l_same T.F_l_same.kp T.b_l_same (dm_bor (db_of (de_callV (ok_l_told T) (takes_of rfl rfl rfl rfl) (hr.mono (by decide)) (by rfl) T.g_l_told T.F_l_told.kp T.b_l_told (dm_val (de_tup (da_cons (de_ix (db_var 5 (pv 5) (.inl rfl)) (db_var 4 (pv 4) (.inl rfl)) (fun _ _ => rfl)) da_nil)) dm_nil))) (dm_bor (db_of (de_callV (ok_l_first_bad T) (takes_of rfl rfl rfl rfl) (hr.mono (by decide)) (by rfl) T.g_l_first_bad T.F_l_first_bad.kp T.b_l_first_bad (dm_val (de_tup (da_cons (de_ix (db_var 5 (pv 5) (.inl rfl)) (db_var 4 (pv 4) (.inl rfl)) (fun _ _ => rfl)) da_nil)) dm_nil))) dm_nil)))))
  (ds_one (ds_ret gok0 rfl de_bl))
  ds_nil))))
  (ds_one (ds_if gok0 (dt_not (dt_val (de_callV (ok_l_same (n := 3) T) (takes_of rfl rfl rfl rfl) (hr.mono (by decide)) (by rfl) T.g_l_same T.F_l_same.kp T.b_l_same (dm_bor (db_of (de_callV (ok_l_told T) (takes_of rfl rfl rfl rfl) (hr.mono (by decide)) (by rfl) T.g_l_told T.F_l_told.kp T.b_l_told (dm_val (de_revT (de_var 5 (pv 5) rfl)) dm_nil))) (dm_bor (db_of (de_callV (ok_l_first_bad T) (takes_of rfl rfl rfl rfl) (hr.mono (by decide)) (by rfl) T.g_l_first_bad T.F_l_first_bad.kp T.b_l_first_bad (dm_val (de_revT (de_var 5 (pv 5) rfl)) dm_nil))) dm_nil)))))
  (ds_one (ds_ret gok0 rfl de_bl))
  ds_nil))))))
  (ds_one (ds_ret gok0 rfl de_bl)))) (.inl rfl)))))
end
end Lk

end S_P_walk
section S_P_end
set_option Elab.async false
set_option linter.all false
set_option maxRecDepth 100000
set_option maxHeartbeats 4000000
namespace Lk
open PySem L2 Dx PySem.Spec PyProof.Rows
theorem txt_mk {K : PySem.W.Frag} {h : Heap} {mg : Str → Option Value} (X : K.In h) (G : h.Ns mainGlobals mg)
    {f0 : Addr} {oc0 kV0 dc0 pm0 cd0 ct0 : Value} {od0 an0 : Option Addr} {sl0 : Array (Option Value)}
    {f1 : Addr} {oc1 kV1 dc1 pm1 cd1 ct1 : Value} {od1 an1 : Option Addr} {sl1 : Array (Option Value)}
    {f2 : Addr} {oc2 kV2 dc2 pm2 cd2 ct2 : Value} {od2 an2 : Option Addr} {sl2 : Array (Option Value)}
    {f3 : Addr} {oc3 kV3 dc3 pm3 cd3 ct3 : Value} {od3 an3 : Option Addr} {sl3 : Array (Option Value)}
    {f4 : Addr} {oc4 kV4 dc4 pm4 cd4 ct4 : Value} {od4 an4 : Option Addr} {sl4 : Array (Option Value)}
    {f5 : Addr} {oc5 kV5 dc5 pm5 cd5 ct5 : Value} {od5 an5 : Option Addr} {sl5 : Array (Option Value)}
    {f6 : Addr} {oc6 kV6 dc6 pm6 cd6 ct6 : Value} {od6 an6 : Option Addr} {sl6 : Array (Option Value)}
    {f7 : Addr} {oc7 kV7 dc7 pm7 cd7 ct7 : Value} {od7 an7 : Option Addr} {sl7 : Array (Option Value)}
    {f8 : Addr} {oc8 kV8 dc8 pm8 cd8 ct8 : Value} {od8 an8 : Option Addr} {sl8 : Array (Option Value)}
    {f9 : Addr} {oc9 kV9 dc9 pm9 cd9 ct9 : Value} {od9 an9 : Option Addr} {sl9 : Array (Option Value)}
    {f10 : Addr} {oc10 kV10 dc10 pm10 cd10 ct10 : Value} {od10 an10 : Option Addr} {sl10 : Array (Option Value)}
    {f11 : Addr} {oc11 kV11 dc11 pm11 cd11 ct11 : Value} {od11 an11 : Option Addr} {sl11 : Array (Option Value)}
    {A_BadFace : Addr}
    {A_BadLine : Addr}
    {A_BadOutline : Addr}
    {A_LaidError : Addr}
    {nm_BadOutline qq_BadOutline : Str} {N_BadOutline fI_BadOutline : Addr} {bs_BadOutline bm_BadOutline : List Value} {sn_BadOutline : List Str} {sb_BadOutline : List Value} {ab_BadOutline : Bool} {co_BadOutline : Option Bool} {dd_BadOutline od_BadOutline an_BadOutline : Option Addr} {m0_BadOutline m1_BadOutline m2_BadOutline m3_BadOutline m5_BadOutline : Option Value} {oc_BadOutline kV_BadOutline dc_BadOutline pm_BadOutline cd_BadOutline ct_BadOutline : Value} {sl_BadOutline : Array (Option Value)}
    (a0 : PySem.W.nsIn K mainGlobals "edges_of" = some (some (.ref f0))) (l0 : K.lookup f0 = some ⟨oc0, od0, .func (PySem.W.fnOf "edges_of" "edges_of" (defArgs s_edges_of) (defBody s_edges_of) (defScope s_edges_of) .none kV0 dc0 pm0 an0 cd0 ct0), sl0⟩) (c0 : PySem.W.codeIn K cd0 "edges_of" = true) (k0 : PySem.W.keepIn K (.ref f0) = true)
    (a1 : PySem.W.nsIn K mainGlobals "is_edge" = some (some (.ref f1))) (l1 : K.lookup f1 = some ⟨oc1, od1, .func (PySem.W.fnOf "is_edge" "is_edge" (defArgs s_is_edge) (defBody s_is_edge) (defScope s_is_edge) .none kV1 dc1 pm1 an1 cd1 ct1), sl1⟩) (c1 : PySem.W.codeIn K cd1 "is_edge" = true) (k1 : PySem.W.keepIn K (.ref f1) = true)
    (a2 : PySem.W.nsIn K mainGlobals "check_outline" = some (some (.ref f2))) (l2 : K.lookup f2 = some ⟨oc2, od2, .func (PySem.W.fnOf "check_outline" "check_outline" (defArgs s_check_outline) (defBody s_check_outline) (defScope s_check_outline) .none kV2 dc2 pm2 an2 cd2 ct2), sl2⟩) (c2 : PySem.W.codeIn K cd2 "check_outline" = true) (k2 : PySem.W.keepIn K (.ref f2) = true)
    (a3 : PySem.W.nsIn K mainGlobals "_law_cell" = some (some (.ref f3))) (l3 : K.lookup f3 = some ⟨oc3, od3, .func (PySem.W.fnOf "_law_cell" "_law_cell" (defArgs s_l_cell) (defBody s_l_cell) (defScope s_l_cell) .none kV3 dc3 pm3 an3 cd3 ct3), sl3⟩) (c3 : PySem.W.codeIn K cd3 "_law_cell" = true) (k3 : PySem.W.keepIn K (.ref f3) = true)
    (a4 : PySem.W.nsIn K mainGlobals "_law_row" = some (some (.ref f4))) (l4 : K.lookup f4 = some ⟨oc4, od4, .func (PySem.W.fnOf "_law_row" "_law_row" (defArgs s_l_row) (defBody s_l_row) (defScope s_l_row) .none kV4 dc4 pm4 an4 cd4 ct4), sl4⟩) (c4 : PySem.W.codeIn K cd4 "_law_row" = true) (k4 : PySem.W.keepIn K (.ref f4) = true)
    (a5 : PySem.W.nsIn K mainGlobals "_law_same" = some (some (.ref f5))) (l5 : K.lookup f5 = some ⟨oc5, od5, .func (PySem.W.fnOf "_law_same" "_law_same" (defArgs s_l_same) (defBody s_l_same) (defScope s_l_same) .none kV5 dc5 pm5 an5 cd5 ct5), sl5⟩) (c5 : PySem.W.codeIn K cd5 "_law_same" = true) (k5 : PySem.W.keepIn K (.ref f5) = true)
    (a6 : PySem.W.nsIn K mainGlobals "_law_reach" = some (some (.ref f6))) (l6 : K.lookup f6 = some ⟨oc6, od6, .func (PySem.W.fnOf "_law_reach" "_law_reach" (defArgs s_l_reach) (defBody s_l_reach) (defScope s_l_reach) .none kV6 dc6 pm6 an6 cd6 ct6), sl6⟩) (c6 : PySem.W.codeIn K cd6 "_law_reach" = true) (k6 : PySem.W.keepIn K (.ref f6) = true)
    (a7 : PySem.W.nsIn K mainGlobals "_law_ring" = some (some (.ref f7))) (l7 : K.lookup f7 = some ⟨oc7, od7, .func (PySem.W.fnOf "_law_ring" "_law_ring" (defArgs s_l_ring) (defBody s_l_ring) (defScope s_l_ring) .none kV7 dc7 pm7 an7 cd7 ct7), sl7⟩) (c7 : PySem.W.codeIn K cd7 "_law_ring" = true) (k7 : PySem.W.keepIn K (.ref f7) = true)
    (a8 : PySem.W.nsIn K mainGlobals "_law_spoilt" = some (some (.ref f8))) (l8 : K.lookup f8 = some ⟨oc8, od8, .func (PySem.W.fnOf "_law_spoilt" "_law_spoilt" (defArgs s_l_spoilt) (defBody s_l_spoilt) (defScope s_l_spoilt) .none kV8 dc8 pm8 an8 cd8 ct8), sl8⟩) (c8 : PySem.W.codeIn K cd8 "_law_spoilt" = true) (k8 : PySem.W.keepIn K (.ref f8) = true)
    (a9 : PySem.W.nsIn K mainGlobals "_law_first_bad" = some (some (.ref f9))) (l9 : K.lookup f9 = some ⟨oc9, od9, .func (PySem.W.fnOf "_law_first_bad" "_law_first_bad" (defArgs s_l_first_bad) (defBody s_l_first_bad) (defScope s_l_first_bad) .none kV9 dc9 pm9 an9 cd9 ct9), sl9⟩) (c9 : PySem.W.codeIn K cd9 "_law_first_bad" = true) (k9 : PySem.W.keepIn K (.ref f9) = true)
    (a10 : PySem.W.nsIn K mainGlobals "_law_told" = some (some (.ref f10))) (l10 : K.lookup f10 = some ⟨oc10, od10, .func (PySem.W.fnOf "_law_told" "_law_told" (defArgs s_l_told) (defBody s_l_told) (defScope s_l_told) .none kV10 dc10 pm10 an10 cd10 ct10), sl10⟩) (c10 : PySem.W.codeIn K cd10 "_law_told" = true) (k10 : PySem.W.keepIn K (.ref f10) = true)
    (a11 : PySem.W.nsIn K mainGlobals "law" = some (some (.ref f11))) (l11 : K.lookup f11 = some ⟨oc11, od11, .func (PySem.W.fnOf "law" "law" (defArgs s_law) (defBody s_law) (defScope s_law) .none kV11 dc11 pm11 an11 cd11 ct11), sl11⟩) (c11 : PySem.W.codeIn K cd11 "law" = true) (k11 : PySem.W.keepIn K (.ref f11) = true)
    (z_ValueError : PySem.W.nsIn K mainGlobals "ValueError" = some none)
    (z_abs : PySem.W.nsIn K mainGlobals "abs" = some none)
    (z_bool : PySem.W.nsIn K mainGlobals "bool" = some none)
    (z_enumerate : PySem.W.nsIn K mainGlobals "enumerate" = some none)
    (z_int : PySem.W.nsIn K mainGlobals "int" = some none)
    (z_isinstance : PySem.W.nsIn K mainGlobals "isinstance" = some none)
    (z_len : PySem.W.nsIn K mainGlobals "len" = some none)
    (z_list : PySem.W.nsIn K mainGlobals "list" = some none)
    (z_range : PySem.W.nsIn K mainGlobals "range" = some none)
    (z_str : PySem.W.nsIn K mainGlobals "str" = some none)
    (z_tuple : PySem.W.nsIn K mainGlobals "tuple" = some none)
    (x_BadFace : PySem.W.nsIn K mainGlobals "BadFace" = some (some (.ref A_BadFace)))
    (x_BadLine : PySem.W.nsIn K mainGlobals "BadLine" = some (some (.ref A_BadLine)))
    (x_BadOutline : PySem.W.nsIn K mainGlobals "BadOutline" = some (some (.ref A_BadOutline)))
    (x_LaidError : PySem.W.nsIn K mainGlobals "LaidError" = some (some (.ref A_LaidError)))
    (X1_BadOutline : K.lookup A_BadOutline = some (excClassObj nm_BadOutline qq_BadOutline A_BadOutline N_BadOutline bs_BadOutline bm_BadOutline true sn_BadOutline sb_BadOutline ab_BadOutline co_BadOutline dd_BadOutline m0_BadOutline m1_BadOutline m2_BadOutline m3_BadOutline m5_BadOutline "ValueError.__new__")) (X2_BadOutline : PySem.HandSPX.refsVE bm_BadOutline = true)
    (X3_BadOutline : PySem.W.findIn K (.ref A_BadOutline) "__setattr__" = some (some (.builtin "object.__setattr__"))) (X4_BadOutline : PySem.W.subIn K (.ref A_BadOutline) (.type "BaseException") = some true) (X5_BadOutline : PySem.W.typeIn K (.ref A_BadOutline) = some (.type "type")) (X6_BadOutline : PySem.W.keepIn K (.ref A_BadOutline) = true)
    (X7_BadOutline : PySem.W.findIn K (.ref A_BadOutline) "__init__" = some (some (.ref fI_BadOutline))) (X8_BadOutline : PySem.W.typeIn K (.ref fI_BadOutline) = some (.type "function")) (X9_BadOutline : K.lookup fI_BadOutline = some ⟨oc_BadOutline, od_BadOutline, .func (PySem.W.fnOf "__init__" "BadOutline.__init__" (defArgs s_BadOutline) (defBody s_BadOutline) (defScope s_BadOutline) .none kV_BadOutline dc_BadOutline pm_BadOutline an_BadOutline cd_BadOutline ct_BadOutline), sl_BadOutline⟩) (Xa_BadOutline : PySem.W.codeIn K cd_BadOutline "BadOutline.__init__" = true) (Xb_BadOutline : PySem.W.keepIn K (.ref fI_BadOutline) = true)
    (Y0_BadOutline : PySem.W.findIn K (.ref A_BadOutline) "ring" = some none)
    (Y1_BadOutline : PySem.W.findIn K (.ref A_BadOutline) "point" = some none)
    (Xc_BadOutline : PySem.W.findIn K (.ref A_BadOutline) "__getattribute__" = some (some (.builtin "BaseException.__getattribute__"))) (Xd_BadOutline : PySem.W.findIn K (.ref A_BadOutline) "__getattr__" = some none) (Xe_BadOutline : PySem.W.hasDictIn K A_BadOutline = true)
    (Xf_BadOutline : PySem.W.findIn K (.ref A_BadOutline) "__class__" = some (some (.builtin "object.__class__"))) (Xg_BadOutline : PySem.W.specialIn K (.builtin "object.__class__") "__get__" = some (some (.builtin "getset_descriptor.__get__"))) (Xh_BadOutline : PySem.W.takesIn K (.builtin "object.__class__") = some true) (Xi_BadOutline : PySem.W.mroIn K A_BadOutline (.type "object") = some true)
    (E_BadOutline_BadOutline : PySem.W.exmOne K (.ref A_BadOutline) (.ref A_BadOutline) = some true)
    (Q_BadOutline_BadFace : PySem.W.kitOne K (.ref A_BadOutline) (.ref A_BadFace) = some false)
    (Q_BadOutline_BadLine : PySem.W.kitOne K (.ref A_BadOutline) (.ref A_BadLine) = some false)
    (Q_BadOutline_LaidError : PySem.W.kitOne K (.ref A_BadOutline) (.ref A_LaidError) = some true)
    (Q_BadOutline_ValueError : PySem.W.kitOne K (.ref A_BadOutline) (.type "ValueError") = some true) : ∃ T : Txt K mg, T.f_law = f11 ∧ T.fd_law = PySem.W.fnOf "law" "law" (defArgs s_law) (defBody s_law) (defScope s_law) .none kV11 dc11 pm11 an11 cd11 ct11 := by
  have F0 := fun_mk (st := s_edges_of) l0 c0 k0
  have b0 := F0.binds (ps := ["ring"]) fun _ _ _ _ _ _ us hl => match us, hl with | [_], _ => rfl
  have F1 := fun_mk (st := s_is_edge) l1 c1 k1
  have b1 := F1.binds (ps := ["start", "end"]) fun _ _ _ _ _ _ us hl => match us, hl with | [_, _], _ => rfl
  have F2 := fun_mk (st := s_check_outline) l2 c2 k2
  have b2 := F2.binds (ps := ["outline"]) fun _ _ _ _ _ _ us hl => match us, hl with | [_], _ => rfl
  have F3 := fun_mk (st := s_l_cell) l3 c3 k3
  have b3 := F3.binds (ps := ["_law_script", "_law_k"]) fun _ _ _ _ _ _ us hl => match us, hl with | [_, _], _ => rfl
  have F4 := fun_mk (st := s_l_row) l4 c4 k4
  have b4 := F4.binds (ps := ["_law_cell_here", "_law_limits"]) fun _ _ _ _ _ _ us hl => match us, hl with | [_, _], _ => rfl
  have F5 := fun_mk (st := s_l_same) l5 c5 k5
  have b5 := F5.binds (ps := ["_law_one", "_law_two"]) fun _ _ _ _ _ _ us hl => match us, hl with | [_, _], _ => rfl
  have F6 := fun_mk (st := s_l_reach) l6 c6 k6
  have b6 := F6.binds (ps := ["_law_point"]) fun _ _ _ _ _ _ us hl => match us, hl with | [_], _ => rfl
  have F7 := fun_mk (st := s_l_ring) l7 c7 k7
  have b7 := F7.binds (ps := ["_law_cell_here"]) fun _ _ _ _ _ _ us hl => match us, hl with | [_], _ => rfl
  have F8 := fun_mk (st := s_l_spoilt) l8 c8 k8
  have b8 := F8.binds (ps := ["_law_rings", "_law_row_here"]) fun _ _ _ _ _ _ us hl => match us, hl with | [_, _], _ => rfl
  have F9 := fun_mk (st := s_l_first_bad) l9 c9 k9
  have b9 := F9.binds (ps := ["_law_outline"]) fun _ _ _ _ _ _ us hl => match us, hl with | [_], _ => rfl
  have F10 := fun_mk (st := s_l_told) l10 c10 k10
  have b10 := F10.binds (ps := ["_law_outline"]) fun _ _ _ _ _ _ us hl => match us, hl with | [_], _ => rfl
  have F11 := fun_mk (st := s_law) l11 c11 k11
  have b11 := F11.binds (ps := ["_law_script"]) fun _ _ _ _ _ _ us hl => match us, hl with | [_], _ => rfl
  have FI_BadOutline := fun_mk (st := s_BadOutline) X9_BadOutline Xa_BadOutline Xb_BadOutline
  have bI_BadOutline := FI_BadOutline.binds (ps := ["self", "ring", "point"]) fun _ _ _ _ _ _ us hl => match us, hl with | [_, _, _], _ => rfl
  exact ⟨⟨f0, _, F0, PySem.W.mg_of X G a0, b0, f1, _, F1, PySem.W.mg_of X G a1, b1, f2, _, F2, PySem.W.mg_of X G a2, b2, f3, _, F3, PySem.W.mg_of X G a3, b3, f4, _, F4, PySem.W.mg_of X G a4, b4, f5, _, F5, PySem.W.mg_of X G a5, b5, f6, _, F6, PySem.W.mg_of X G a6, b6, f7, _, F7, PySem.W.mg_of X G a7, b7, f8, _, F8, PySem.W.mg_of X G a8, b8, f9, _, F9, PySem.W.mg_of X G a9, b9, f10, _, F10, PySem.W.mg_of X G a10, b10, f11, _, F11, PySem.W.mg_of X G a11, b11, PySem.W.mg_none_of X G z_ValueError, PySem.W.mg_none_of X G z_abs, PySem.W.mg_none_of X G z_bool, PySem.W.mg_none_of X G z_enumerate, PySem.W.mg_none_of X G z_int, PySem.W.mg_none_of X G z_isinstance, PySem.W.mg_none_of X G z_len, PySem.W.mg_none_of X G z_list, PySem.W.mg_none_of X G z_range, PySem.W.mg_none_of X G z_str, PySem.W.mg_none_of X G z_tuple, A_BadFace, PySem.W.mg_of X G x_BadFace, A_BadLine, PySem.W.mg_of X G x_BadLine, A_BadOutline, PySem.W.mg_of X G x_BadOutline, A_LaidError, PySem.W.mg_of X G x_LaidError, ⟨⟨_, _, _, _, _, _, _, _, _, _, _, _, _, _, _, X1_BadOutline, X2_BadOutline⟩, X3_BadOutline, X4_BadOutline, X5_BadOutline, X6_BadOutline⟩, fI_BadOutline, _, X7_BadOutline, X8_BadOutline, FI_BadOutline, bI_BadOutline, Y0_BadOutline, Y1_BadOutline, ⟨Xc_BadOutline, Xd_BadOutline, X4_BadOutline, Xe_BadOutline⟩, ⟨Xc_BadOutline, Xd_BadOutline, X4_BadOutline, Xe_BadOutline, Xf_BadOutline, Xg_BadOutline, Xh_BadOutline, Xi_BadOutline⟩, E_BadOutline_BadOutline, Q_BadOutline_BadFace, Q_BadOutline_BadLine, Q_BadOutline_LaidError, Q_BadOutline_ValueError⟩, rfl, rfl⟩

def spLaw (K : PySem.W.Frag) : Sp := fun vs H Q _ => ∃ (a : Addr) (ns : List Int), vs = [.ref a] ∧ SqL K H a (ns.map V.int) ∧ ns.length ≤ 63 ∧ ∀ H', Q (.bl true) H'
theorem ok_end {P : Program} {w : World} {K : PySem.W.Frag} {mg : Str → Option Value} {base : Heap} (T : Txt K mg) : FnOk P w K mg base (L2.CX P w) 5 T.f_law T.fd_law ["_law_script"] (spLaw K) := FnOk.imp (ok_law T) fun vs H Q E ⟨a, ns, e, hS, hl, k⟩ => by
  subst e
  exact law_sp (law_true ns hl) hS k
theorem all_mk {l : PySem.W.OpenLaw} {w : World} {K : PySem.W.Frag} {h : Heap} {mg : Str → Option Value} {fa : Addr} (X : K.In h) (G : h.Ns mainGlobals mg) (hfa : mg "law" = some (.ref fa))
    {f0 : Addr} {oc0 kV0 dc0 pm0 cd0 ct0 : Value} {od0 an0 : Option Addr} {sl0 : Array (Option Value)}
    {f1 : Addr} {oc1 kV1 dc1 pm1 cd1 ct1 : Value} {od1 an1 : Option Addr} {sl1 : Array (Option Value)}
    {f2 : Addr} {oc2 kV2 dc2 pm2 cd2 ct2 : Value} {od2 an2 : Option Addr} {sl2 : Array (Option Value)}
    {f3 : Addr} {oc3 kV3 dc3 pm3 cd3 ct3 : Value} {od3 an3 : Option Addr} {sl3 : Array (Option Value)}
    {f4 : Addr} {oc4 kV4 dc4 pm4 cd4 ct4 : Value} {od4 an4 : Option Addr} {sl4 : Array (Option Value)}
    {f5 : Addr} {oc5 kV5 dc5 pm5 cd5 ct5 : Value} {od5 an5 : Option Addr} {sl5 : Array (Option Value)}
    {f6 : Addr} {oc6 kV6 dc6 pm6 cd6 ct6 : Value} {od6 an6 : Option Addr} {sl6 : Array (Option Value)}
    {f7 : Addr} {oc7 kV7 dc7 pm7 cd7 ct7 : Value} {od7 an7 : Option Addr} {sl7 : Array (Option Value)}
    {f8 : Addr} {oc8 kV8 dc8 pm8 cd8 ct8 : Value} {od8 an8 : Option Addr} {sl8 : Array (Option Value)}
    {f9 : Addr} {oc9 kV9 dc9 pm9 cd9 ct9 : Value} {od9 an9 : Option Addr} {sl9 : Array (Option Value)}
    {f10 : Addr} {oc10 kV10 dc10 pm10 cd10 ct10 : Value} {od10 an10 : Option Addr} {sl10 : Array (Option Value)}
    {f11 : Addr} {oc11 kV11 dc11 pm11 cd11 ct11 : Value} {od11 an11 : Option Addr} {sl11 : Array (Option Value)}
    {A_BadFace : Addr}
    {A_BadLine : Addr}
    {A_BadOutline : Addr}
    {A_LaidError : Addr}
    {nm_BadOutline qq_BadOutline : Str} {N_BadOutline fI_BadOutline : Addr} {bs_BadOutline bm_BadOutline : List Value} {sn_BadOutline : List Str} {sb_BadOutline : List Value} {ab_BadOutline : Bool} {co_BadOutline : Option Bool} {dd_BadOutline od_BadOutline an_BadOutline : Option Addr} {m0_BadOutline m1_BadOutline m2_BadOutline m3_BadOutline m5_BadOutline : Option Value} {oc_BadOutline kV_BadOutline dc_BadOutline pm_BadOutline cd_BadOutline ct_BadOutline : Value} {sl_BadOutline : Array (Option Value)}
    (a0 : PySem.W.nsIn K mainGlobals "edges_of" = some (some (.ref f0))) (l0 : K.lookup f0 = some ⟨oc0, od0, .func (PySem.W.fnOf "edges_of" "edges_of" (defArgs s_edges_of) (defBody s_edges_of) (defScope s_edges_of) .none kV0 dc0 pm0 an0 cd0 ct0), sl0⟩) (c0 : PySem.W.codeIn K cd0 "edges_of" = true) (k0 : PySem.W.keepIn K (.ref f0) = true)
    (a1 : PySem.W.nsIn K mainGlobals "is_edge" = some (some (.ref f1))) (l1 : K.lookup f1 = some ⟨oc1, od1, .func (PySem.W.fnOf "is_edge" "is_edge" (defArgs s_is_edge) (defBody s_is_edge) (defScope s_is_edge) .none kV1 dc1 pm1 an1 cd1 ct1), sl1⟩) (c1 : PySem.W.codeIn K cd1 "is_edge" = true) (k1 : PySem.W.keepIn K (.ref f1) = true)
    (a2 : PySem.W.nsIn K mainGlobals "check_outline" = some (some (.ref f2))) (l2 : K.lookup f2 = some ⟨oc2, od2, .func (PySem.W.fnOf "check_outline" "check_outline" (defArgs s_check_outline) (defBody s_check_outline) (defScope s_check_outline) .none kV2 dc2 pm2 an2 cd2 ct2), sl2⟩) (c2 : PySem.W.codeIn K cd2 "check_outline" = true) (k2 : PySem.W.keepIn K (.ref f2) = true)
    (a3 : PySem.W.nsIn K mainGlobals "_law_cell" = some (some (.ref f3))) (l3 : K.lookup f3 = some ⟨oc3, od3, .func (PySem.W.fnOf "_law_cell" "_law_cell" (defArgs s_l_cell) (defBody s_l_cell) (defScope s_l_cell) .none kV3 dc3 pm3 an3 cd3 ct3), sl3⟩) (c3 : PySem.W.codeIn K cd3 "_law_cell" = true) (k3 : PySem.W.keepIn K (.ref f3) = true)
    (a4 : PySem.W.nsIn K mainGlobals "_law_row" = some (some (.ref f4))) (l4 : K.lookup f4 = some ⟨oc4, od4, .func (PySem.W.fnOf "_law_row" "_law_row" (defArgs s_l_row) (defBody s_l_row) (defScope s_l_row) .none kV4 dc4 pm4 an4 cd4 ct4), sl4⟩) (c4 : PySem.W.codeIn K cd4 "_law_row" = true) (k4 : PySem.W.keepIn K (.ref f4) = true)
    (a5 : PySem.W.nsIn K mainGlobals "_law_same" = some (some (.ref f5))) (l5 : K.lookup f5 = some ⟨oc5, od5, .func (PySem.W.fnOf "_law_same" "_law_same" (defArgs s_l_same) (defBody s_l_same) (defScope s_l_same) .none kV5 dc5 pm5 an5 cd5 ct5), sl5⟩) (c5 : PySem.W.codeIn K cd5 "_law_same" = true) (k5 : PySem.W.keepIn K (.ref f5) = true)
    (a6 : PySem.W.nsIn K mainGlobals "_law_reach" = some (some (.ref f6))) (l6 : K.lookup f6 = some ⟨oc6, od6, .func (PySem.W.fnOf "_law_reach" "_law_reach" (defArgs s_l_reach) (defBody s_l_reach) (defScope s_l_reach) .none kV6 dc6 pm6 an6 cd6 ct6), sl6⟩) (c6 : PySem.W.codeIn K cd6 "_law_reach" = true) (k6 : PySem.W.keepIn K (.ref f6) = true)
    (a7 : PySem.W.nsIn K mainGlobals "_law_ring" = some (some (.ref f7))) (l7 : K.lookup f7 = some ⟨oc7, od7, .func (PySem.W.fnOf "_law_ring" "_law_ring" (defArgs s_l_ring) (defBody s_l_ring) (defScope s_l_ring) .none kV7 dc7 pm7 an7 cd7 ct7), sl7⟩) (c7 : PySem.W.codeIn K cd7 "_law_ring" = true) (k7 : PySem.W.keepIn K (.ref f7) = true)
    (a8 : PySem.W.nsIn K mainGlobals "_law_spoilt" = some (some (.ref f8))) (l8 : K.lookup f8 = some ⟨oc8, od8, .func (PySem.W.fnOf "_law_spoilt" "_law_spoilt" (defArgs s_l_spoilt) (defBody s_l_spoilt) (defScope s_l_spoilt) .none kV8 dc8 pm8 an8 cd8 ct8), sl8⟩) (c8 : PySem.W.codeIn K cd8 "_law_spoilt" = true) (k8 : PySem.W.keepIn K (.ref f8) = true)
    (a9 : PySem.W.nsIn K mainGlobals "_law_first_bad" = some (some (.ref f9))) (l9 : K.lookup f9 = some ⟨oc9, od9, .func (PySem.W.fnOf "_law_first_bad" "_law_first_bad" (defArgs s_l_first_bad) (defBody s_l_first_bad) (defScope s_l_first_bad) .none kV9 dc9 pm9 an9 cd9 ct9), sl9⟩) (c9 : PySem.W.codeIn K cd9 "_law_first_bad" = true) (k9 : PySem.W.keepIn K (.ref f9) = true)
    (a10 : PySem.W.nsIn K mainGlobals "_law_told" = some (some (.ref f10))) (l10 : K.lookup f10 = some ⟨oc10, od10, .func (PySem.W.fnOf "_law_told" "_law_told" (defArgs s_l_told) (defBody s_l_told) (defScope s_l_told) .none kV10 dc10 pm10 an10 cd10 ct10), sl10⟩) (c10 : PySem.W.codeIn K cd10 "_law_told" = true) (k10 : PySem.W.keepIn K (.ref f10) = true)
    (a11 : PySem.W.nsIn K mainGlobals "law" = some (some (.ref f11))) (l11 : K.lookup f11 = some ⟨oc11, od11, .func (PySem.W.fnOf "law" "law" (defArgs s_law) (defBody s_law) (defScope s_law) .none kV11 dc11 pm11 an11 cd11 ct11), sl11⟩) (c11 : PySem.W.codeIn K cd11 "law" = true) (k11 : PySem.W.keepIn K (.ref f11) = true)
    (z_ValueError : PySem.W.nsIn K mainGlobals "ValueError" = some none)
    (z_abs : PySem.W.nsIn K mainGlobals "abs" = some none)
    (z_bool : PySem.W.nsIn K mainGlobals "bool" = some none)
    (z_enumerate : PySem.W.nsIn K mainGlobals "enumerate" = some none)
    (z_int : PySem.W.nsIn K mainGlobals "int" = some none)
    (z_isinstance : PySem.W.nsIn K mainGlobals "isinstance" = some none)
    (z_len : PySem.W.nsIn K mainGlobals "len" = some none)
    (z_list : PySem.W.nsIn K mainGlobals "list" = some none)
    (z_range : PySem.W.nsIn K mainGlobals "range" = some none)
    (z_str : PySem.W.nsIn K mainGlobals "str" = some none)
    (z_tuple : PySem.W.nsIn K mainGlobals "tuple" = some none)
    (x_BadFace : PySem.W.nsIn K mainGlobals "BadFace" = some (some (.ref A_BadFace)))
    (x_BadLine : PySem.W.nsIn K mainGlobals "BadLine" = some (some (.ref A_BadLine)))
    (x_BadOutline : PySem.W.nsIn K mainGlobals "BadOutline" = some (some (.ref A_BadOutline)))
    (x_LaidError : PySem.W.nsIn K mainGlobals "LaidError" = some (some (.ref A_LaidError)))
    (X1_BadOutline : K.lookup A_BadOutline = some (excClassObj nm_BadOutline qq_BadOutline A_BadOutline N_BadOutline bs_BadOutline bm_BadOutline true sn_BadOutline sb_BadOutline ab_BadOutline co_BadOutline dd_BadOutline m0_BadOutline m1_BadOutline m2_BadOutline m3_BadOutline m5_BadOutline "ValueError.__new__")) (X2_BadOutline : PySem.HandSPX.refsVE bm_BadOutline = true)
    (X3_BadOutline : PySem.W.findIn K (.ref A_BadOutline) "__setattr__" = some (some (.builtin "object.__setattr__"))) (X4_BadOutline : PySem.W.subIn K (.ref A_BadOutline) (.type "BaseException") = some true) (X5_BadOutline : PySem.W.typeIn K (.ref A_BadOutline) = some (.type "type")) (X6_BadOutline : PySem.W.keepIn K (.ref A_BadOutline) = true)
    (X7_BadOutline : PySem.W.findIn K (.ref A_BadOutline) "__init__" = some (some (.ref fI_BadOutline))) (X8_BadOutline : PySem.W.typeIn K (.ref fI_BadOutline) = some (.type "function")) (X9_BadOutline : K.lookup fI_BadOutline = some ⟨oc_BadOutline, od_BadOutline, .func (PySem.W.fnOf "__init__" "BadOutline.__init__" (defArgs s_BadOutline) (defBody s_BadOutline) (defScope s_BadOutline) .none kV_BadOutline dc_BadOutline pm_BadOutline an_BadOutline cd_BadOutline ct_BadOutline), sl_BadOutline⟩) (Xa_BadOutline : PySem.W.codeIn K cd_BadOutline "BadOutline.__init__" = true) (Xb_BadOutline : PySem.W.keepIn K (.ref fI_BadOutline) = true)
    (Y0_BadOutline : PySem.W.findIn K (.ref A_BadOutline) "ring" = some none)
    (Y1_BadOutline : PySem.W.findIn K (.ref A_BadOutline) "point" = some none)
    (Xc_BadOutline : PySem.W.findIn K (.ref A_BadOutline) "__getattribute__" = some (some (.builtin "BaseException.__getattribute__"))) (Xd_BadOutline : PySem.W.findIn K (.ref A_BadOutline) "__getattr__" = some none) (Xe_BadOutline : PySem.W.hasDictIn K A_BadOutline = true)
    (Xf_BadOutline : PySem.W.findIn K (.ref A_BadOutline) "__class__" = some (some (.builtin "object.__class__"))) (Xg_BadOutline : PySem.W.specialIn K (.builtin "object.__class__") "__get__" = some (some (.builtin "getset_descriptor.__get__"))) (Xh_BadOutline : PySem.W.takesIn K (.builtin "object.__class__") = some true) (Xi_BadOutline : PySem.W.mroIn K A_BadOutline (.type "object") = some true)
    (E_BadOutline_BadOutline : PySem.W.exmOne K (.ref A_BadOutline) (.ref A_BadOutline) = some true)
    (Q_BadOutline_BadFace : PySem.W.kitOne K (.ref A_BadOutline) (.ref A_BadFace) = some false)
    (Q_BadOutline_BadLine : PySem.W.kitOne K (.ref A_BadOutline) (.ref A_BadLine) = some false)
    (Q_BadOutline_LaidError : PySem.W.kitOne K (.ref A_BadOutline) (.ref A_LaidError) = some true)
    (Q_BadOutline_ValueError : PySem.W.kitOne K (.ref A_BadOutline) (.type "ValueError") = some true) :
    ∃ fd : FuncData, (∀ (s : Shared) (v : Value), BindsTo s fd ⟨[v], []⟩ [("_law_script", v)]) ∧ ∀ base : Heap, K.In base → base.Ns mainGlobals mg → FnOk l.prog w K mg base (L2.CX l.prog w) 5 fa fd ["_law_script"] (spLaw K) := by
  have e := hfa.symm.trans (PySem.W.mg_of X G a11)
  cases e
  obtain ⟨T, e1, e2⟩ := txt_mk X G a0 l0 c0 k0 a1 l1 c1 k1 a2 l2 c2 k2 a3 l3 c3 k3 a4 l4 c4 k4 a5 l5 c5 k5 a6 l6 c6 k6 a7 l7 c7 k7 a8 l8 c8 k8 a9 l9 c9 k9 a10 l10 c10 k10 a11 l11 c11 k11 z_ValueError z_abs z_bool z_enumerate z_int z_isinstance z_len z_list z_range z_str z_tuple x_BadFace x_BadLine x_BadOutline x_LaidError X1_BadOutline X2_BadOutline X3_BadOutline X4_BadOutline X5_BadOutline X6_BadOutline X7_BadOutline X8_BadOutline X9_BadOutline Xa_BadOutline Xb_BadOutline Y0_BadOutline Y1_BadOutline Xc_BadOutline Xd_BadOutline Xe_BadOutline Xf_BadOutline Xg_BadOutline Xh_BadOutline Xi_BadOutline E_BadOutline_BadOutline Q_BadOutline_BadFace Q_BadOutline_BadLine Q_BadOutline_LaidError Q_BadOutline_ValueError
  refine ⟨PySem.W.fnOf "law" "law" (defArgs s_law) (defBody s_law) (defScope s_law) .none kV11 dc11 pm11 an11 cd11 ct11, fun s v => .of_eq rfl, fun base _ _ => ?_⟩
  have z := ok_end (P := l.prog) (w := w) (base := base) T
  rw [e1, e2] at z
  exact z
end Lk

end S_P_end
section S_P_top
set_option Elab.async false
set_option linter.all false
open PySem PySem.W PyProof.Rows
set_option maxRecDepth 100000 in
set_option maxHeartbeats 0 in
theorem PySem.Challenge.cw_laidforall_k21_first_bad_edge_holds : PySem.Challenge.rw_laidforall_k21_first_bad_edge.Holds := by
  w_on; o_law; k_head; (case hw => w_witness2)
  k_fill
  refine L2.walk_of (l := PySem.Challenge.rw_laidforall_k21_first_bad_edge) (n := 63) (k := 5) (x := "_law_script") (CX := fun w => L2.CX PySem.Challenge.rw_laidforall_k21_first_bad_edge.prog w) (sp := fun w => Lk.spLaw _) rfl (by decide) rfl ⟨rfl, by decide, by decide⟩ (fun w h Y => PySem.W.kIn_of Y) ?F (fun _ _ a ns hl _ hS => ⟨a, ns, rfl, hS, hl, fun _ => rfl⟩) (fun _ _ _ _ _ h => Dx.cx_never h)
  case F =>
    intro w mg fa h KX G hmg
    refine' Lk.all_mk KX G hmg ?a0 ?l0 ?c0 ?k0 ?a1 ?l1 ?c1 ?k1 ?a2 ?l2 ?c2 ?k2 ?a3 ?l3 ?c3 ?k3 ?a4 ?l4 ?c4 ?k4 ?a5 ?l5 ?c5 ?k5 ?a6 ?l6 ?c6 ?k6 ?a7 ?l7 ?c7 ?k7 ?a8 ?l8 ?c8 ?k8 ?a9 ?l9 ?c9 ?k9 ?a10 ?l10 ?c10 ?k10 ?a11 ?l11 ?c11 ?k11 ?z_ValueError ?z_abs ?z_bool ?z_enumerate ?z_int ?z_isinstance ?z_len ?z_list ?z_range ?z_str ?z_tuple ?x_BadFace ?x_BadLine ?x_BadOutline ?x_LaidError ?X1_BadOutline ?X2_BadOutline ?X3_BadOutline ?X4_BadOutline ?X5_BadOutline ?X6_BadOutline ?X7_BadOutline ?X8_BadOutline ?X9_BadOutline ?Xa_BadOutline ?Xb_BadOutline ?Y0_BadOutline ?Y1_BadOutline ?Xc_BadOutline ?Xd_BadOutline ?Xe_BadOutline ?Xf_BadOutline ?Xg_BadOutline ?Xh_BadOutline ?Xi_BadOutline ?E_BadOutline_BadOutline ?Q_BadOutline_BadFace ?Q_BadOutline_BadLine ?Q_BadOutline_LaidError ?Q_BadOutline_ValueError
    (case a0 => k_is)
    (case l0 => k_is)
    (case c0 => k_is)
    (case k0 => k_is)
    (case a1 => k_is)
    (case l1 => k_is)
    (case c1 => k_is)
    (case k1 => k_is)
    (case a2 => k_is)
    (case l2 => k_is)
    (case c2 => k_is)
    (case k2 => k_is)
    (case a3 => k_is)
    (case l3 => k_is)
    (case c3 => k_is)
    (case k3 => k_is)
    (case a4 => k_is)
    (case l4 => k_is)
    (case c4 => k_is)
    (case k4 => k_is)
    (case a5 => k_is)
    (case l5 => k_is)
    (case c5 => k_is)
    (case k5 => k_is)
    (case a6 => k_is)
    (case l6 => k_is)
    (case c6 => k_is)
    (case k6 => k_is)
    (case a7 => k_is)
    (case l7 => k_is)
    (case c7 => k_is)
    (case k7 => k_is)
    (case a8 => k_is)
    (case l8 => k_is)
    (case c8 => k_is)
    (case k8 => k_is)
    (case a9 => k_is)
    (case l9 => k_is)
    (case c9 => k_is)
    (case k9 => k_is)
    (case a10 => k_is)
    (case l10 => k_is)
    (case c10 => k_is)
    (case k10 => k_is)
    (case a11 => k_is)
    (case l11 => k_is)
    (case c11 => k_is)
    (case k11 => k_is)
    (case z_ValueError => k_is)
    (case z_abs => k_is)
    (case z_bool => k_is)
    (case z_enumerate => k_is)
    (case z_int => k_is)
    (case z_isinstance => k_is)
    (case z_len => k_is)
    (case z_list => k_is)
    (case z_range => k_is)
    (case z_str => k_is)
    (case z_tuple => k_is)
    (case x_BadFace => k_is)
    (case x_BadLine => k_is)
    (case x_BadOutline => k_is)
    (case x_LaidError => k_is)
    (case X1_BadOutline => k_is)
    (case X2_BadOutline => decide +kernel)
    (case X3_BadOutline => k_is)
    (case X4_BadOutline => k_is)
    (case X5_BadOutline => k_is)
    (case X6_BadOutline => k_is)
    (case X7_BadOutline => k_is)
    (case X8_BadOutline => k_is)
    (case X9_BadOutline => k_is)
    (case Xa_BadOutline => k_is)
    (case Xb_BadOutline => k_is)
    (case Y0_BadOutline => k_is)
    (case Y1_BadOutline => k_is)
    (case Xc_BadOutline => k_is)
    (case Xd_BadOutline => k_is)
    (case Xe_BadOutline => k_is)
    (case Xf_BadOutline => k_is)
    (case Xg_BadOutline => k_is)
    (case Xh_BadOutline => k_is)
    (case Xi_BadOutline => k_is)
    (case E_BadOutline_BadOutline => first | k_is | rfl | decide +kernel)
    (case Q_BadOutline_BadFace => first | k_is | rfl | decide +kernel)
    (case Q_BadOutline_BadLine => first | k_is | rfl | decide +kernel)
    (case Q_BadOutline_LaidError => first | k_is | rfl | decide +kernel)
    (case Q_BadOutline_ValueError => first | k_is | rfl | decide +kernel)

end S_P_top
