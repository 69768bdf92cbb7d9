import PyProof.Rows.All
import Wide.All
import OpenK.AllK
import Wide.FinOn
import HandS.ForMost
import HandS.ForExc
import HandS.Evl
import HandS.Walk
import HandS.IsInst
import HandS.TupAny
import HandS.Deep
import HandS.Flow
import HandS.Wide
import HandS.Text
import HandS.CallSlots
import HandS.ExcInit
import HandS.ExcField
import HandS.ExcIs
import KE.KExcIs
import HandS.FStr
import PySem.Challenge.RW_laidforall_k74_places_and_layings_writte
set_option Elab.async false
set_option linter.all false
set_option maxRecDepth 100000
section S_DxA
set_option Elab.async false
set_option linter.all false
set_option maxRecDepth 100000
/-! Dx, part A: Python data as a Lean type, what value at which heap stands for it, results, environments. -/
namespace Dx
open PySem L2

/-- data: what a value stands for, whatever its address -/
inductive D where
  | non
  | bl (b : Bool)
  | int (i : Int)
  | str (s : Str)
  | lst (xs : List D)
  | fz (xs : List D)
  | tup (xs : List D)
  | dk (ks : List Key) (vs : List D)
  | dt (ks : List (List Key)) (vs : List D)
  | obj (c : Str) (ns : List Str) (vs : List D)

/-- where the classes of the text stand -/
abbrev CM := Str → Option Addr

/-- H' knows all that H knows -/
def Ex (H H' : Hp) : Prop := ∀ a o, H a = some o → H' a = some o
theorem Ex.refl {H : Hp} : Ex H H := fun _ _ h => h
theorem Ex.trans {H H1 H2 : Hp} (a : Ex H H1) (b : Ex H1 H2) : Ex H H2 := fun x o h => b x o (a x o h)
theorem Ex.nn {H H' : Hp} (e : Ex H H') {p : Addr} (h : H' p = none) : H p = none := by
  cases h1 : H p with
  | none => rfl
  | some o => rw [e p o h1] at h; cases h
theorem Ex.new {H : Hp} {p : Addr} {o : HO} (h : H p = none) : Ex H (upd H p o) := fun a u e => by
  rw [upd_ne (ne_of_none e h)]; exact e
theorem Ex.put {H H' : Hp} {p : Addr} {o : HO} (e : Ex H H') (h : H p = none) : Ex H (upd H' p o) := fun a u ha => by
  rw [upd_ne (ne_of_none ha h)]; exact e a u ha
theorem Ex.both {S H : Hp} {p : Addr} {o : HO} (e : Ex S H) : Ex (upd S p o) (upd H p o) := fun a u ha => by
  by_cases h : a = p
  · subst h; rw [upd_same] at ha ⊢; exact ha
  · rw [upd_ne h] at ha ⊢; exact e a u ha
theorem Ex.rd {H H' : Hp} {a : Addr} {u : HO} (e : Ex H H') (h : Rd H a u) : Rd H' a u := by
  rcases h with h | ⟨o, h⟩
  · exact .inl (e a _ h)
  · exact .inr ⟨o, e a _ h⟩
theorem Ex.l {K : PySem.W.Frag} {H H' : Hp} {a : Addr} {xs : List V} (e : Ex H H') (h : SqL K H a xs) : SqL K H' a xs := by
  rcases h with h | h
  · exact .inl (e.rd h)
  · exact .inr h
theorem Ex.t {K : PySem.W.Frag} {H H' : Hp} {a : Addr} {xs : List V} (e : Ex H H') (h : SqT K H a xs) : SqT K H' a xs := by
  rcases h with h | h
  · exact .inl (e.rd h)
  · exact .inr h

mutual
/-- the value v, at the heap S, stands for the data -/
inductive Rp (K : PySem.W.Frag) (cm : CM) (S : Hp) : V → D → Prop
  | non : Rp K cm S .non .non
  | bl (b : Bool) : Rp K cm S (.bl b) (.bl b)
  | int (i : Int) : Rp K cm S (.int i) (.int i)
  | str (x : Str) : Rp K cm S (.str x) (.str x)
  | lst {a : Addr} {xs : List V} {ds : List D} : S a = some (.lst xs) → RpA K cm S xs ds → Rp K cm S (.ref a) (.lst ds)
  | fz {a : Addr} {xs : List V} {ds : List D} : SqL K S a xs → RpA K cm S xs ds → Rp K cm S (.ref a) (.fz ds)
  | tup {a : Addr} {xs : List V} {ds : List D} : SqT K S a xs → RpA K cm S xs ds → Rp K cm S (.ref a) (.tup ds)
  | dk {a : Addr} {kvs : List (Key × V)} {ks : List Key} {ds : List D} : S a = some (.dK kvs) → ks = kvs.map (·.1) → RpA K cm S (kvs.map (·.2)) ds → Rp K cm S (.ref a) (.dk ks ds)
  | dt {a : Addr} {kvs : List (List Key × V)} {ks : List (List Key)} {ds : List D} : S a = some (.dT kvs) → ks = kvs.map (·.1) → RpA K cm S (kvs.map (·.2)) ds → Rp K cm S (.ref a) (.dt ks ds)
  | obj {a C dx : Addr} {c : Str} {fs : List (Str × V)} {ns : List Str} {ds : List D} : cm c = some C → S a = some (.ins C dx fs) → ns = fs.map (·.1) → RpA K cm S (fs.map (·.2)) ds → Rp K cm S (.ref a) (.obj c ns ds)
inductive RpA (K : PySem.W.Frag) (cm : CM) (S : Hp) : List V → List D → Prop
  | nil : RpA K cm S [] []
  | cons {v : V} {vs : List V} {d : D} {ds : List D} : Rp K cm S v d → RpA K cm S vs ds → RpA K cm S (v :: vs) (d :: ds)
end

section
variable {K : PySem.W.Frag} {cm : CM} {S S' : Hp}
mutual
theorem Rp.mono (e : Ex S S') : ∀ {v : V} {d : D}, Rp K cm S v d → Rp K cm S' v d
  | _, .non, h => by cases h; exact .non
  | _, .bl _, h => by cases h; exact .bl _
  | _, .int _, h => by cases h; exact .int _
  | _, .str _, h => by cases h; exact .str _
  | _, .lst ds, h => by cases h with | lst q r => exact .lst (e _ _ q) (RpA.mono e r)
  | _, .fz ds, h => by cases h with | fz q r => exact .fz (e.l q) (RpA.mono e r)
  | _, .tup ds, h => by cases h with | tup q r => exact .tup (e.t q) (RpA.mono e r)
  | _, .dk _ ds, h => by cases h with | dk q k r => exact .dk (e _ _ q) k (RpA.mono e r)
  | _, .dt _ ds, h => by cases h with | dt q k r => exact .dt (e _ _ q) k (RpA.mono e r)
  | _, .obj _ _ ds, h => by cases h with | obj c q k r => exact .obj c (e _ _ q) k (RpA.mono e r)
theorem RpA.mono (e : Ex S S') : ∀ {vs : List V} {ds : List D}, RpA K cm S vs ds → RpA K cm S' vs ds
  | _, [], h => by cases h; exact .nil
  | _, d :: ds, h => by cases h with | cons a r => exact .cons (Rp.mono e a) (RpA.mono e r)
end
theorem RpA.length : ∀ {vs : List V} {ds : List D}, RpA K cm S vs ds → vs.length = ds.length
  | _, _, .nil => rfl
  | _, _, .cons _ r => by simp [RpA.length r]
theorem RpA.get : ∀ {vs : List V} {ds : List D} {i : Nat} {d : D}, RpA K cm S vs ds → ds[i]? = some d → ∃ v, vs[i]? = some v ∧ Rp K cm S v d
  | _, _, _, _, .nil, e => by simp at e
  | _, _, 0, _, .cons h _, e => by simp at e; subst e; exact ⟨_, by simp, h⟩
  | _, _, i + 1, d, .cons _ r, e => by
    obtain ⟨v, h1, h2⟩ := RpA.get (i := i) (d := d) r (by simpa using e)
    exact ⟨v, by simpa using h1, h2⟩
theorem RpA.getV : ∀ {vs : List V} {ds : List D} {i : Nat} {v : V}, RpA K cm S vs ds → vs[i]? = some v → ∃ d, ds[i]? = some d ∧ Rp K cm S v d
  | _, _, _, _, .nil, e => by simp at e
  | _, _, 0, _, .cons h _, e => by simp at e; subst e; exact ⟨_, by simp, h⟩
  | _, _, i + 1, v, .cons _ r, e => by
    obtain ⟨d, h1, h2⟩ := RpA.getV (i := i) (v := v) r (by simpa using e)
    exact ⟨d, by simpa using h1, h2⟩
theorem RpA.app : ∀ {vs us : List V} {ds es : List D}, RpA K cm S vs ds → RpA K cm S us es → RpA K cm S (vs ++ us) (ds ++ es)
  | _, _, _, _, .nil, s => s
  | _, _, _, _, .cons h r, s => .cons h (RpA.app r s)
theorem RpA.one {v : V} {d : D} (h : Rp K cm S v d) : RpA K cm S [v] [d] := .cons h .nil
theorem RpA.take : ∀ {vs : List V} {ds : List D} (n : Nat), RpA K cm S vs ds → RpA K cm S (vs.take n) (ds.take n)
  | _, _, 0, _ => .nil
  | _, _, _ + 1, .nil => .nil
  | _, _, n + 1, .cons h r => .cons h (RpA.take n r)
theorem RpA.drop : ∀ {vs : List V} {ds : List D} (n : Nat), RpA K cm S vs ds → RpA K cm S (vs.drop n) (ds.drop n)
  | _, _, 0, r => r
  | _, _, _ + 1, .nil => .nil
  | _, _, n + 1, .cons _ r => RpA.drop n r
theorem RpA.set {v : V} {d : D} (h : Rp K cm S v d) : ∀ {vs : List V} {ds : List D} (i : Nat), RpA K cm S vs ds → RpA K cm S (vs.set i v) (ds.set i d)
  | _, _, _, .nil => .nil
  | _, _, 0, .cons _ r => .cons h r
  | _, _, i + 1, .cons q r => .cons q (RpA.set h i r)
theorem RpA.reverse : ∀ {vs : List V} {ds : List D}, RpA K cm S vs ds → RpA K cm S vs.reverse ds.reverse
  | _, _, .nil => .nil
  | _, _, .cons h r => by rw [List.reverse_cons, List.reverse_cons]; exact (RpA.reverse r).app (.one h)
end

/-- the content of a mutable object stands for the data, its parts at S -/
inductive RpO (K : PySem.W.Frag) (cm : CM) (S : Hp) : HO → D → Prop
  | lst {xs : List V} {ds : List D} : RpA K cm S xs ds → RpO K cm S (.lst xs) (.lst ds)
  | dk {kvs : List (Key × V)} {ks : List Key} {ds : List D} : ks = kvs.map (·.1) → RpA K cm S (kvs.map (·.2)) ds → RpO K cm S (.dK kvs) (.dk ks ds)
  | dt {kvs : List (List Key × V)} {ks : List (List Key)} {ds : List D} : ks = kvs.map (·.1) → RpA K cm S (kvs.map (·.2)) ds → RpO K cm S (.dT kvs) (.dt ks ds)
  | obj {C dx : Addr} {c : Str} {fs : List (Str × V)} {ns : List Str} {ds : List D} : cm c = some C → ns = fs.map (·.1) → RpA K cm S (fs.map (·.2)) ds → RpO K cm S (.ins C dx fs) (.obj c ns ds)
theorem RpO.mono {K : PySem.W.Frag} {cm : CM} {S S' : Hp} (e : Ex S S') {o : HO} {d : D} (h : RpO K cm S o d) : RpO K cm S' o d := by
  cases h with
  | lst r => exact .lst (r.mono e)
  | dk k r => exact .dk k (r.mono e)
  | dt k r => exact .dt k (r.mono e)
  | obj c k r => exact .obj c k (r.mono e)
theorem RpO.pub {K : PySem.W.Frag} {cm : CM} {S : Hp} {o : HO} {d : D} {p : Addr} (h : RpO K cm S o d) (hp : S p = o) : Rp K cm S (.ref p) d := by
  cases h with
  | lst r => exact .lst hp r
  | dk k r => exact .dk hp k r
  | dt k r => exact .dt hp k r
  | obj c k r => exact .obj c hp k r

/-- S is the part of H that stays; from (S, H) to (S', H') nothing known has changed -/
structure Fwd (S H S' H' : Hp) : Prop where
  s : Ex S S'
  h : Ex H H'
  sub : Ex S' H'
  new : ∀ a o, S' a = some o → S a = none → H a = none
theorem Fwd.refl {S H : Hp} (e : Ex S H) : Fwd S H S H := ⟨Ex.refl, Ex.refl, e, fun a o h n => by rw [n] at h; cases h⟩
theorem Fwd.trans {S H S1 H1 S2 H2 : Hp} (a : Fwd S H S1 H1) (b : Fwd S1 H1 S2 H2) : Fwd S H S2 H2 :=
  ⟨a.s.trans b.s, a.h.trans b.h, b.sub, fun p o h n => by
    cases e : S1 p with
    | some u => exact a.new p u e n
    | none => exact a.h.nn (b.new p o h e)⟩
theorem Fwd.both {S H : Hp} {p : Addr} {o : HO} (e : Ex S H) (n : H p = none) : Fwd S H (upd S p o) (upd H p o) :=
  ⟨Ex.new (e.nn n), Ex.new n, e.both, fun a u h m => by
    by_cases ha : a = p
    · subst ha; exact n
    · rw [upd_ne ha, m] at h; cases h⟩
theorem Fwd.heap {S H : Hp} {p : Addr} {o : HO} (e : Ex S H) (n : H p = none) : Fwd S H S (upd H p o) :=
  ⟨Ex.refl, Ex.new n, e.put (e.nn n), fun a u h m => by rw [m] at h; cases h⟩
/-- a new object known to H' alone becomes one that stays -/
theorem Fwd.pub {S H S' H' : Hp} {p : Addr} {o : HO} (f : Fwd S H S' H') (n : H p = none) (ns : S' p = none) (h : H' p = some o) : Fwd S H (upd S' p o) H' :=
  ⟨f.s.trans (Ex.new ns), f.h, fun a u ha => by
    by_cases hh : a = p
    · subst hh; rw [upd_same] at ha; rw [h]; exact ha
    · rw [upd_ne hh] at ha; exact f.sub a u ha, fun a u ha m => by
    by_cases hh : a = p
    · subst hh; exact n
    · rw [upd_ne hh] at ha; exact f.new a u ha m⟩

/-! ### results -/
inductive Res (α : Type) where
  | ok (a : α)
  | err (c : Str) (ns : List Str) (vs : List D)
  | bad
@[inline] def Res.bind {α β : Type} : Res α → (α → Res β) → Res β
  | .ok a, k => k a
  | .err c ns vs, _ => .err c ns vs
  | .bad, _ => .bad
instance : Monad Res where
  pure := Res.ok
  bind := Res.bind
abbrev Rho := List (Option D)
/-- the end of a statement -/
inductive SR where
  | nx (r : Rho)
  | rt (d : D)
  | bk (r : Rho)
  | ct (r : Rho)
  | er (r : Rho) (c : Str) (ns : List Str) (vs : List D)
  | bad

/-! ### kinds of slots: v a value that stays, o an own mutable object, b a list that a caller may own, x a caught exception -/
inductive Ow where
  | v | o | b
  | x (a C dd : Addr)
structure Cf where
  K : PySem.W.Frag
  cm : CM
  W : WX
  ge : Option (List Ow)
  rm : Bool

/-- a value, or a mutable object read at H whose parts stay -/
def RpB (K : PySem.W.Frag) (cm : CM) (S H : Hp) (v : V) (d : D) : Prop :=
  Rp K cm S v d ∨ ∃ p ho, v = .ref p ∧ H p = some ho ∧ RpO K cm S ho d
section
variable {K : PySem.W.Frag} {cm : CM} {S S' H H' : Hp} {v : V} {d : D}
theorem RpB.mono (h : RpB K cm S H v d) (e : Ex S S') (e' : Ex H H') : RpB K cm S' H' v d := by
  rcases h with h | ⟨p, ho, h1, h2, h3⟩
  · exact .inl (h.mono e)
  · exact .inr ⟨p, ho, h1, e' _ _ h2, h3.mono e⟩
theorem RpB.list {ds : List D} (h : RpB K cm S H v (.lst ds)) (e : Ex S H) : ∃ p xs, v = .ref p ∧ H p = some (.lst xs) ∧ RpA K cm S xs ds := by
  rcases h with h | ⟨p, ho, h1, h2, h3⟩
  · cases h with | lst q r => exact ⟨_, _, rfl, e _ _ q, r⟩
  · cases h3 with | lst r => exact ⟨p, _, h1, h2, r⟩
theorem RpB.int {i : Int} (h : RpB K cm S H v (.int i)) : v = .int i := by
  rcases h with h | ⟨p, ho, h1, h2, h3⟩
  · cases h; rfl
  · cases h3
theorem RpB.bl {b : Bool} (h : RpB K cm S H v (.bl b)) : v = .bl b := by
  rcases h with h | ⟨p, ho, h1, h2, h3⟩
  · cases h; rfl
  · cases h3
theorem RpB.non (h : RpB K cm S H v .non) : v = .non := by
  rcases h with h | ⟨p, ho, h1, h2, h3⟩
  · cases h; rfl
  · cases h3
theorem RpB.str {z : Str} (h : RpB K cm S H v (.str z)) : v = .str z := by
  rcases h with h | ⟨p, ho, h1, h2, h3⟩
  · cases h; rfl
  · cases h3
theorem RpB.tup {ds : List D} (h : RpB K cm S H v (.tup ds)) (e : Ex S H) : ∃ p xs, v = .ref p ∧ SqT K H p xs ∧ RpA K cm S xs ds ∧ SqT K S p xs := by
  rcases h with h | ⟨p, ho, h1, h2, h3⟩
  · cases h with | tup q r => exact ⟨_, _, rfl, e.t q, r, q⟩
  · cases h3
theorem RpB.fz {ds : List D} (h : RpB K cm S H v (.fz ds)) (e : Ex S H) : ∃ p xs, v = .ref p ∧ SqL K H p xs ∧ RpA K cm S xs ds := by
  rcases h with h | ⟨p, ho, h1, h2, h3⟩
  · cases h with | fz q r => exact ⟨_, _, rfl, e.l q, r⟩
  · cases h3
theorem RpB.dk {ks : List Key} {ds : List D} (h : RpB K cm S H v (.dk ks ds)) (e : Ex S H) : ∃ p kvs, v = .ref p ∧ H p = some (.dK kvs) ∧ ks = kvs.map (·.1) ∧ RpA K cm S (kvs.map (·.2)) ds := by
  rcases h with h | ⟨p, ho, h1, h2, h3⟩
  · cases h with | dk q k r => exact ⟨_, _, rfl, e _ _ q, k, r⟩
  · cases h3 with | dk k r => exact ⟨p, _, h1, h2, k, r⟩
theorem RpB.dt {ks : List (List Key)} {ds : List D} (h : RpB K cm S H v (.dt ks ds)) (e : Ex S H) : ∃ p kvs, v = .ref p ∧ H p = some (.dT kvs) ∧ ks = kvs.map (·.1) ∧ RpA K cm S (kvs.map (·.2)) ds := by
  rcases h with h | ⟨p, ho, h1, h2, h3⟩
  · cases h with | dt q k r => exact ⟨_, _, rfl, e _ _ q, k, r⟩
  · cases h3 with | dt k r => exact ⟨p, _, h1, h2, k, r⟩
theorem RpB.obj {n : Str} {ns : List Str} {ds : List D} (h : RpB K cm S H v (.obj n ns ds)) (e : Ex S H) : ∃ p C dx fs, v = .ref p ∧ cm n = some C ∧ H p = some (.ins C dx fs) ∧ ns = fs.map (·.1) ∧ RpA K cm S (fs.map (·.2)) ds := by
  rcases h with h | ⟨p, ho, h1, h2, h3⟩
  · cases h with | obj c q k r => exact ⟨_, _, _, _, rfl, c, e _ _ q, k, r⟩
  · cases h3 with | obj c k r => exact ⟨p, _, _, _, h1, c, h2, k, r⟩
end

def SlotOk (c : Cf) (H0 S H : Hp) : Ow → V → D → Prop
  | .v, v, d => Rp c.K c.cm S v d
  | .o, v, d => ∃ p ho, v = .ref p ∧ H p = some ho ∧ S p = none ∧ H0 p = none ∧ RpO c.K c.cm S ho d
  | .b, v, d => RpB c.K c.cm S H0 v d
  | .x a C dd, v, d => v = .ref a ∧ ∃ n ns ds fs, d = .obj n ns ds ∧ c.cm n = some C ∧ S dd = some (.xd fs) ∧ ns = fs.map (·.1) ∧ RpA c.K c.cm S (fs.map (·.2)) ds

abbrev kd (G : List Ow) (i : Nat) : Ow := G.getD i .v

structure EnvOk (c : Cf) (S0 H0 : Hp) (G : List Ow) (S H : Hp) (σ : St) (r : Rho) : Prop where
  fwd : Fwd S0 H0 S H
  len : σ.length = r.length
  slot : ∀ i d, r[i]? = some (some d) → ∃ v, σ[i]? = some (some v) ∧ SlotOk c H0 S H (kd G i) v d
  sep : ∀ i j d e p, r[i]? = some (some d) → r[j]? = some (some e) → kd G i = .o → kd G j = .o → σ[i]? = some (some (.ref p)) → σ[j]? = some (some (.ref p)) → i = j

section
variable {c : Cf} {S0 H0 S H S' H' : Hp} {G : List Ow} {σ : St} {r : Rho}
theorem SlotOk.mono {k : Ow} {v : V} {d : D} (h : SlotOk c H0 S H k v d) (f : Fwd S H S' H') : SlotOk c H0 S' H' k v d := by
  cases k with
  | v => exact Rp.mono f.s h
  | o =>
    obtain ⟨p, ho, h1, h2, h3, h4, h5⟩ := h
    refine ⟨p, ho, h1, f.h p _ h2, ?_, h4, h5.mono f.s⟩
    cases e : S' p with
    | none => rfl
    | some u => rw [f.new p u e h3] at h2; cases h2
  | b => exact RpB.mono h f.s Ex.refl
  | x a C dd =>
    obtain ⟨h1, n, ns, ds, fs, h2, h3, h4, h5, h6⟩ := h
    exact ⟨h1, n, ns, ds, fs, h2, h3, f.s _ _ h4, h5, h6.mono f.s⟩
theorem EnvOk.go (e : EnvOk c S0 H0 G S H σ r) (f : Fwd S H S' H') : EnvOk c S0 H0 G S' H' σ r :=
  ⟨e.fwd.trans f, e.len, fun i d h => let ⟨v, h1, h2⟩ := e.slot i d h; ⟨v, h1, h2.mono f⟩, e.sep⟩
theorem EnvOk.ex (e : EnvOk c S0 H0 G S H σ r) : Ex S H := e.fwd.sub

theorem kd_set_self (G : List Ow) (i : Nat) : kd (G.set i .v) i = .v := by
  show (G.set i .v).getD i .v = .v
  rw [List.getD_eq_getElem?_getD, List.getElem?_set]
  split
  · split <;> rfl
  · rename_i h; exact absurd rfl h
theorem kd_set_ne {G : List Ow} {i j : Nat} {k : Ow} (h : i ≠ j) : kd (G.set i k) j = kd G j := by
  show (G.set i k).getD j .v = G.getD j .v
  rw [List.getD_eq_getElem?_getD, List.getD_eq_getElem?_getD, List.getElem?_set_ne h]
theorem kd_set_o {G : List Ow} {i : Nat} {k : Ow} (h : i < G.length) : kd (G.set i k) i = k := by
  show (G.set i k).getD i .v = k
  rw [List.getD_eq_getElem?_getD, List.getElem?_set_self h]; rfl
theorem set_some {α : Type} {l : List (Option α)} {i j : Nat} {a : Option α} {b : α} (h : (l.set i a)[j]? = some (some b)) : (i = j ∧ a = some b ∧ i < l.length) ∨ (i ≠ j ∧ l[j]? = some (some b)) := by
  by_cases e : i = j
  · subst e
    rw [List.getElem?_set] at h
    rw [if_pos rfl] at h
    split at h
    · rename_i hl; exact .inl ⟨rfl, Option.some.inj h, hl⟩
    · cases h
  · rw [List.getElem?_set_ne e] at h
    exact .inr ⟨e, h⟩

/-- a slot gets a value -/
theorem EnvOk.setV (e : EnvOk c S0 H0 G S H σ r) {v : V} {d : D} (i : Nat) (h : Rp c.K c.cm S v d) : EnvOk c S0 H0 (G.set i .v) S H (σ.set i (some v)) (r.set i (some d)) := by
  refine ⟨e.fwd, by simp [e.len], fun j b hb => ?_, fun j k b b' p hj hk kj kk sj sk => ?_⟩
  · rcases set_some hb with ⟨rfl, ea, hl⟩ | ⟨ne, hb⟩
    · cases ea
      exact ⟨v, by rw [List.getElem?_set_self (by rw [e.len]; exact hl)], by rw [kd_set_self]; exact h⟩
    · obtain ⟨u, h1, h2⟩ := e.slot j b hb
      exact ⟨u, by rw [List.getElem?_set_ne ne]; exact h1, by rw [kd_set_ne ne]; exact h2⟩
  · have nj : i ≠ j := fun z => by subst z; rw [kd_set_self] at kj; cases kj
    have nk : i ≠ k := fun z => by subst z; rw [kd_set_self] at kk; cases kk
    rw [List.getElem?_set_ne nj] at hj sj
    rw [List.getElem?_set_ne nk] at hk sk
    rw [kd_set_ne nj] at kj
    rw [kd_set_ne nk] at kk
    exact e.sep j k b b' p hj hk kj kk sj sk
/-- a slot gets a new mutable object -/
theorem EnvOk.setO (e : EnvOk c S0 H0 G S H σ r) (f : Fwd S H S' H') {p : Addr} {ho : HO} {d : D} (i : Nat) (hi : i < G.length) (n : H p = none) (ns : S' p = none) (hp : H' p = some ho) (h : RpO c.K c.cm S' ho d) :
    EnvOk c S0 H0 (G.set i .o) S' H' (σ.set i (some (.ref p))) (r.set i (some d)) := by
  have e' := e.go f
  have fresh : ∀ j b, r[j]? = some (some b) → kd G j = .o → σ[j]? ≠ some (some (.ref p)) := fun j b hb kj sj => by
    obtain ⟨u, h1, h2⟩ := e.slot j b hb
    rw [kj] at h2
    obtain ⟨q, ho', z1, z2, _⟩ := h2
    rw [sj] at h1; cases h1; cases z1
    rw [n] at z2; cases z2
  refine ⟨e'.fwd, by simp [e.len], fun j b hb => ?_, fun j k b b' q hj hk kj kk sj sk => ?_⟩
  · rcases set_some hb with ⟨rfl, ea, hl⟩ | ⟨ne, hb⟩
    · cases ea
      refine ⟨.ref p, by rw [List.getElem?_set_self (by rw [e.len]; exact hl)], ?_⟩
      rw [kd_set_o hi]
      exact ⟨p, ho, rfl, hp, ns, e.fwd.h.nn n, h⟩
    · obtain ⟨u, h1, h2⟩ := e'.slot j b hb
      exact ⟨u, by rw [List.getElem?_set_ne ne]; exact h1, by rw [kd_set_ne ne]; exact h2⟩
  · by_cases nj : i = j
    · by_cases nk : i = k
      · rw [← nj, nk]
      · subst nj
        exfalso
        rcases set_some sj with ⟨_, ea, _⟩ | ⟨ne, _⟩
        · cases ea
          rw [List.getElem?_set_ne nk] at hk sk
          rw [kd_set_ne nk] at kk
          exact fresh k _ hk kk sk
        · exact ne rfl
    · by_cases nk : i = k
      · subst nk
        exfalso
        rcases set_some sk with ⟨_, ea, _⟩ | ⟨ne, _⟩
        · cases ea
          rw [List.getElem?_set_ne nj] at hj sj
          rw [kd_set_ne nj] at kj
          exact fresh j _ hj kj sj
        · exact ne rfl
      · rw [List.getElem?_set_ne nj] at hj sj
        rw [List.getElem?_set_ne nk] at hk sk
        rw [kd_set_ne nj] at kj
        rw [kd_set_ne nk] at kk
        exact e.sep j k b b' q hj hk kj kk sj sk
/-- the own object in slot i: its place -/
theorem EnvOk.own (e : EnvOk c S0 H0 G S H σ r) {i : Nat} {d : D} (k : kd G i = .o) (h : r[i]? = some (some d)) : ∃ p ho, σ[i]? = some (some (.ref p)) ∧ H p = some ho ∧ S p = none ∧ H0 p = none ∧ RpO c.K c.cm S ho d := by
  obtain ⟨v, h1, h2⟩ := e.slot i d h
  rw [k] at h2
  obtain ⟨p, ho, rfl, h3⟩ := h2
  exact ⟨p, ho, h1, h3⟩
/-- the own object in slot i is changed -/
theorem EnvOk.mut (e : EnvOk c S0 H0 G S H σ r) {i : Nat} {d d' : D} {p : Addr} {ho' : HO} (k : kd G i = .o) (h : r[i]? = some (some d)) (hs : σ[i]? = some (some (.ref p))) (h' : RpO c.K c.cm S ho' d') :
    EnvOk c S0 H0 G S (upd H p ho') σ (r.set i (some d')) := by
  obtain ⟨q, ho, s1, s2, s3, s4, s5⟩ := e.own k h
  rw [hs] at s1; cases s1
  have hf : Fwd S0 H0 S (upd H p ho') := ⟨e.fwd.s, e.fwd.h.put s4, e.fwd.sub.put s3, e.fwd.new⟩
  refine ⟨hf, by simp [e.len], fun j b hb => ?_, fun j l b b' q hj hk kj kk sj sk => ?_⟩
  · rcases set_some hb with ⟨rfl, ea, hl⟩ | ⟨ne, hb⟩
    · cases ea
      refine ⟨.ref p, hs, ?_⟩
      rw [k]
      exact ⟨p, ho', rfl, upd_same, s3, s4, h'⟩
    · obtain ⟨u, h1, h2⟩ := e.slot j b hb
      refine ⟨u, h1, ?_⟩
      cases kj : kd G j with
      | v => rw [kj] at h2; exact h2
      | b => rw [kj] at h2; exact h2
      | x a C dd => rw [kj] at h2; exact h2
      | o =>
        rw [kj] at h2
        obtain ⟨q, hq, z1, z2, z3, z4, z5⟩ := h2
        subst z1
        have : q ≠ p := fun z => by subst z; exact ne (e.sep i j d b q h hb k kj hs h1)
        exact ⟨q, hq, rfl, by rw [upd_ne this]; exact z2, z3, z4, z5⟩
  · have un : ∀ m b, (r.set i (some d'))[m]? = some (some b) → ∃ b', r[m]? = some (some b') := fun m b hm => by
      rcases set_some hm with ⟨rfl, _, _⟩ | ⟨_, hm⟩
      · exact ⟨d, h⟩
      · exact ⟨b, hm⟩
    obtain ⟨b1, hj⟩ := un j b hj
    obtain ⟨b2, hk⟩ := un l b' hk
    exact e.sep j l b1 b2 q hj hk kj kk sj sk
/-- the own object in slot i becomes a value -/
theorem EnvOk.pub (e : EnvOk c S0 H0 G S H σ r) (i : Nat) (hk : kd G i = .o ∨ kd G i = .v) : ∃ S', EnvOk c S0 H0 (G.set i .v) S' H σ r := by
  by_cases k : kd G i = .o
  · cases h : r[i]? with
    | none =>
      refine ⟨S, e.fwd, e.len, fun j b hb => ?_, fun j l b b' q hj hk kj kk sj sk => ?_⟩
      · have ne : i ≠ j := fun z => by subst z; rw [h] at hb; cases hb
        obtain ⟨u, h1, h2⟩ := e.slot j b hb
        exact ⟨u, h1, by rw [kd_set_ne ne]; exact h2⟩
      · have nj : i ≠ j := fun z => by subst z; rw [h] at hj; cases hj
        have nl : i ≠ l := fun z => by subst z; rw [h] at hk; cases hk
        rw [kd_set_ne nj] at kj
        rw [kd_set_ne nl] at kk
        exact e.sep j l b b' q hj hk kj kk sj sk
    | some od =>
      cases od with
      | none =>
        refine ⟨S, e.fwd, e.len, fun j b hb => ?_, fun j l b b' q hj hk kj kk sj sk => ?_⟩
        · have ne : i ≠ j := fun z => by subst z; rw [h] at hb; cases hb
          obtain ⟨u, h1, h2⟩ := e.slot j b hb
          exact ⟨u, h1, by rw [kd_set_ne ne]; exact h2⟩
        · have nj : i ≠ j := fun z => by subst z; rw [h] at hj; cases hj
          have nl : i ≠ l := fun z => by subst z; rw [h] at hk; cases hk
          rw [kd_set_ne nj] at kj
          rw [kd_set_ne nl] at kk
          exact e.sep j l b b' q hj hk kj kk sj sk
      | some d =>
        obtain ⟨p, ho, s1, s2, s3, s4, s5⟩ := e.own k h
        have ex : Ex S (upd S p ho) := Ex.new s3
        refine ⟨upd S p ho, ⟨e.fwd.s.trans ex, e.fwd.h, fun a u ha => ?_, fun a u ha m => ?_⟩, e.len, fun j b hb => ?_, fun j l b b' q hj hk kj kk sj sk => ?_⟩
        · by_cases hh : a = p
          · subst hh; rw [upd_same] at ha; rw [s2]; exact ha
          · rw [upd_ne hh] at ha; exact e.fwd.sub a u ha
        · by_cases hh : a = p
          · subst hh; exact s4
          · rw [upd_ne hh] at ha; exact e.fwd.new a u ha m
        · by_cases ne : i = j
          · subst ne
            rw [h] at hb; cases hb
            refine ⟨.ref p, s1, ?_⟩
            rw [kd_set_self]
            exact (s5.mono ex).pub upd_same
          · obtain ⟨u, h1, h2⟩ := e.slot j b hb
            refine ⟨u, h1, ?_⟩
            rw [kd_set_ne ne]
            cases kj : kd G j with
            | v => rw [kj] at h2; exact Rp.mono ex h2
            | b => rw [kj] at h2; exact RpB.mono h2 ex Ex.refl
            | x a C dd =>
              rw [kj] at h2
              obtain ⟨y1, n, ns, ds, fs, y2, y3, y4, y5, y6⟩ := h2
              exact ⟨y1, n, ns, ds, fs, y2, y3, ex _ _ y4, y5, y6.mono ex⟩
            | o =>
              rw [kj] at h2
              obtain ⟨q, hq, z1, z2, z3, z4, z5⟩ := h2
              subst z1
              have : q ≠ p := fun z => by subst z; exact ne (e.sep i j d b q h hb k kj s1 h1)
              exact ⟨q, hq, rfl, z2, by rw [upd_ne this]; exact z3, z4, z5.mono ex⟩
        · have nj : i ≠ j := fun z => by subst z; rw [kd_set_self] at kj; cases kj
          have nl : i ≠ l := fun z => by subst z; rw [kd_set_self] at kk; cases kk
          rw [kd_set_ne nj] at kj
          rw [kd_set_ne nl] at kk
          exact e.sep j l b b' q hj hk kj kk sj sk
  · have k' : kd G i = .v := hk.resolve_left k
    have all : ∀ j, kd (G.set i .v) j = kd G j := fun j => by
      by_cases ne : i = j
      · subst ne; rw [kd_set_self, k']
      · exact kd_set_ne ne
    exact ⟨S, e.fwd, e.len, fun j b hb => by rw [all]; exact e.slot j b hb, fun j l b b' q hj hk kj kk sj sk => e.sep j l b b' q hj hk ((all j).symm.trans kj) ((all l).symm.trans kk) sj sk⟩
end
end Dx

end S_DxA
section S_DxB
set_option Elab.async false
set_option linter.all false
set_option maxRecDepth 100000
set_option maxHeartbeats 2000000
/-! Dx, part B: readings by data, expressions. -/
namespace Dx
open PySem L2

/-- what is wanted behind a result, from (S, H) on -/
def PostG (c : Cf) (σ : St) (S H : Hp) {α : Type} (r : Res α) (k : α → Hp → Hp → Prop) : Prop :=
  match r with
  | .ok a => ∀ S' H', Fwd S H S' H' → k a S' H'
  | .err n ns vs => ∀ C dd S' H' fs, c.cm n = some C → Fwd S H S' H' → S' dd = some (.xd fs) → ns = fs.map (·.1) → RpA c.K c.cm S' (fs.map (·.2)) vs → c.W (.ref C) (some dd) σ H'
  | .bad => False
section
variable {c : Cf} {σ : St} {S H S1 H1 : Hp} {α β : Type} {r : Res α} {k k' : α → Hp → Hp → Prop}
theorem PostG.mono (h : PostG c σ S H r k) (f : Fwd S H S1 H1) : PostG c σ S1 H1 r k := by
  cases r with
  | ok a => exact fun S' H' g => h S' H' (f.trans g)
  | err n ns vs => exact fun C dd S' H' fs h1 g h2 h3 h4 => h C dd S' H' fs h1 (f.trans g) h2 h3 h4
  | bad => exact h
theorem PostG.imp (h : PostG c σ S H r k) (hk : ∀ a S' H', Fwd S H S' H' → k a S' H' → k' a S' H') : PostG c σ S H r k' := by
  cases r with
  | ok a => exact fun S' H' g => hk a S' H' g (h S' H' g)
  | err n ns vs => exact h
  | bad => exact h
theorem PostG.unbind {g : α → Res β} {k : β → Hp → Hp → Prop} (h : PostG c σ S H (r.bind g) k) : PostG c σ S H r fun a S' H' => PostG c σ S' H' (g a) k := by
  cases r with
  | ok a => exact fun S' H' f => PostG.mono (show PostG c σ S H (g a) k from h) f
  | err n ns vs => exact h
  | bad => exact h
end

/-- x where p holds; nothing is reckoned for it -/
noncomputable def guard {α : Type} (p : Prop) (x : Res α) : Res α := @ite _ p (Classical.propDecidable p) x .bad
theorem guard_pos {α : Type} {p : Prop} {x : Res α} (h : p) : guard p x = x := by unfold guard; exact if_pos h
theorem guard_true {α : Type} {x : Res α} : guard True x = x := guard_pos trivial
theorem PostG.gd {c : Cf} {σ : St} {S H : Hp} {α : Type} {p : Prop} {x : Res α} {k : α → Hp → Hp → Prop} (h : PostG c σ S H (guard p x) k) : p ∧ PostG c σ S H x k := by
  by_cases hp : p
  · rw [guard_pos hp] at h; exact ⟨hp, h⟩
  · unfold guard at h; rw [if_neg hp] at h; exact h.elim
/-- a mode: what the heap ahead, the heaps behind, the machine's result and the data have in common -/
abbrev Md (β α : Type) := Hp → Hp → Hp → β → α → Prop
class Anti {β α : Type} (R : Md β α) : Prop where
  anti : ∀ {H H2 S' H' : Hp} {b : β} {a : α}, Ex H H2 → R H2 S' H' b a → R H S' H' b a
def mV (c : Cf) : Md V D := fun _ S' _ v d => Rp c.K c.cm S' v d
def mB (c : Cf) : Md V D := fun _ S' H' v d => RpB c.K c.cm S' H' v d
def mO (c : Cf) : Md V D := fun H S' H' v d => ∃ p ho, v = .ref p ∧ H p = none ∧ S' p = none ∧ H' p = some ho ∧ RpO c.K c.cm S' ho d
def mA (c : Cf) : Md (List V) (List D) := fun _ S' _ vs ds => RpA c.K c.cm S' vs ds
def mE (α : Type) : Md α α := fun _ _ _ b a => b = a
instance {c : Cf} : Anti (mV c) := ⟨fun _ h => h⟩
instance {c : Cf} : Anti (mB c) := ⟨fun _ h => h⟩
instance {c : Cf} : Anti (mA c) := ⟨fun _ h => h⟩
instance {α : Type} : Anti (mE α) := ⟨fun _ h => h⟩
instance {c : Cf} : Anti (mO c) := ⟨fun e ⟨p, ho, h1, h2, h3⟩ => ⟨p, ho, h1, e.nn h2, h3⟩⟩

/-- the reading of a piece whose data is f -/
def rd (c : Cf) (G : List Ow) {α β : Type} (f : Rho → Res α) (R : Md β α) : St → Hp → (β → Hp → Prop) → Prop := fun σ H Q =>
  ∃ S0 H0 S r, EnvOk c S0 H0 G S H σ r ∧ PostG c σ S H (f r) fun a S' H' => ∀ b, R H S' H' b a → Q b H'
abbrev tV (c : Cf) (G : List Ow) (f : Rho → Res D) : TE := rd c G f (mV c)
abbrev tR (c : Cf) (G : List Ow) (f : Rho → Res D) : TE := rd c G f (mB c)
abbrev tO (c : Cf) (G : List Ow) (f : Rho → Res D) : TE := rd c G f (mO c)
abbrev tT (c : Cf) (G : List Ow) (f : Rho → Res Bool) : TT := rd c G f (mE Bool)
abbrev tAs (c : Cf) (G : List Ow) (f : Rho → Res (List D)) : TA := rd c G f (mA c)

theorem pe_imp {X : Cx} {e : Expr} {t t' : TE} (h : PE X e t) (k : ∀ σ H Q, t' σ H Q → t σ H Q) : PE X e t' := ⟨fun pins s σ H Q I q => h.run pins s σ H Q I (k σ H Q q)⟩
theorem pt_imp {X : Cx} {e : Expr} {t t' : TT} (h : PT X e t) (k : ∀ σ H Q, t' σ H Q → t σ H Q) : PT X e t' := ⟨fun pins s σ H Q I q => h.run pins s σ H Q I (k σ H Q q)⟩
theorem pa_imp {X : Cx} {es : List Expr} {t t' : TA} (h : PA X es t) (k : ∀ σ H Q, t' σ H Q → t σ H Q) : PA X es t' := ⟨fun p pins s σ H Q I q => h.run p pins s σ H Q I (k σ H Q q)⟩
theorem ps_imp {X : Cx} {st : Stmt} {t t' : TS} (h : PS X st t) (k : ∀ E σ H, t' E σ H → t E σ H) : PS X st t' := ⟨fun pins s σ H E I q => h.run pins s σ H E I (k E σ H q)⟩
theorem pss_imp {X : Cx} {st : List Stmt} {t t' : TS} (h : PSs X st t) (k : ∀ E σ H, t' E σ H → t E σ H) : PSs X st t' := ⟨fun pins s σ H E I q => h.run pins s σ H E I (k E σ H q)⟩

section
variable {c : Cf} {G : List Ow} {σ : St} {S0 H0 S H : Hp} {r : Rho} {α β γ : Type}
/-- one piece, then what follows -/
theorem rd_seq {f : Rho → Res α} {R : Md β α} (e : EnvOk c S0 H0 G S H σ r) {g : α → Res γ} {k : γ → Hp → Hp → Prop} (p : PostG c σ S H ((f r).bind g) k) {Q : β → Hp → Prop}
    (h : ∀ a b S' H', Fwd S H S' H' → EnvOk c S0 H0 G S' H' σ r → R H S' H' b a → PostG c σ S' H' (g a) k → Q b H') : rd c G f R σ H Q :=
  ⟨S0, H0, S, r, e, p.unbind.imp fun a S' H' fw hk b hb => h a b S' H' fw (e.go fw) hb hk⟩
/-- the last piece -/
theorem rd_last {f : Rho → Res α} {R : Md β α} (e : EnvOk c S0 H0 G S H σ r) {k : α → Hp → Hp → Prop} (p : PostG c σ S H (f r) k) {Q : β → Hp → Prop}
    (h : ∀ a b S' H', Fwd S H S' H' → EnvOk c S0 H0 G S' H' σ r → R H S' H' b a → k a S' H' → Q b H') : rd c G f R σ H Q :=
  ⟨S0, H0, S, r, e, p.imp fun a S' H' fw hk b hb => h a b S' H' fw (e.go fw) hb hk⟩
theorem PostG.anti {R : Md β α} [Anti R] {H2 : Hp} {x : Res α} {Q : β → Hp → Prop} (e : Ex H H2) {S2 : Hp} (p : PostG c σ S2 H2 x fun a S' H' => ∀ b, R H S' H' b a → Q b H') :
    PostG c σ S2 H2 x fun a S' H' => ∀ b, R H2 S' H' b a → Q b H' := p.imp fun _ _ _ _ hk b hb => hk b (Anti.anti e hb)
/-- the wish behind a value that is there -/
theorem PostG.here {R : Md β α} {a : α} {b : β} {Q : β → Hp → Prop} (p : PostG c σ S H (.ok a) fun a S' H' => ∀ b, R H S' H' b a → Q b H') (e : Ex S H) (h : R H S H b a) : Q b H := p S H (Fwd.refl e) b h
theorem PostG.go {a : α} {k : α → Hp → Hp → Prop} (p : PostG c σ S H (.ok a) k) (e : Ex S H) : k a S H := p S H (Fwd.refl e)
/-- .. behind a new object that stays; that is kept own -/
theorem PostG.laid {d : D} {o : HO} {q : Addr} {Q : VK} (p : PostG c σ S H (.ok d) fun a S' H' => ∀ b, mV c H S' H' b a → Q b H') (e : Ex S H) (n : H q = none) (h : Rp c.K c.cm (upd S q o) (.ref q) d) : Q (.ref q) (upd H q o) :=
  p _ _ (Fwd.both e n) _ h
theorem PostG.kept {d : D} {o : HO} {q : Addr} {Q : VK} (p : PostG c σ S H (.ok d) fun a S' H' => ∀ b, mO c H S' H' b a → Q b H') (e : Ex S H) (n : H q = none) (h : RpO c.K c.cm S o d) : Q (.ref q) (upd H q o) :=
  p _ _ (Fwd.heap e n) _ ⟨q, o, rfl, n, e.nn n, upd_same, h⟩
end

section
variable {X : Cx} {c : Cf} {G : List Ow} {f f1 f2 : Rho → Res D} {a b e : Expr} {pos : Pos}
/-! ### modes -/
theorem de_pub (h : PE X e (tO c G f)) : PE X e (tV c G f) := pe_imp h fun σ H Q ⟨S0, H0, S, r, ok, p⟩ => ⟨S0, H0, S, r, ok, by
  revert p
  cases f r with
  | ok d =>
    intro p S' H' fw b hb
    obtain ⟨q, ho, rfl, h1, h2, h3, h4⟩ := hb
    have fw' := fw.pub h1 h2 h3
    exact p _ H' fw' _ ((h4.mono (Ex.new h2)).pub upd_same)
  | err n ns vs => exact id
  | bad => exact id⟩
theorem de_bor (h : PE X e (tR c G f)) : PE X e (tV c G f) → True := fun _ => trivial
theorem db_of (h : PE X e (tV c G f)) : PE X e (tR c G f) := pe_imp h fun σ H Q ⟨S0, H0, S, r, ok, p⟩ => ⟨S0, H0, S, r, ok, p.imp fun _ _ _ _ hk b hb => hk b (.inl hb)⟩
theorem db_own (h : PE X e (tO c G f)) : PE X e (tR c G f) := db_of (de_pub h)

/-! ### names, constants -/
def dVar (i : Nat) : Rho → Res D := fun r => match r[i]? with
  | some (some d) => .ok d
  | _ => .bad
def dC (d : D) : Rho → Res D := fun _ => .ok d
theorem dVar_ok {i : Nat} {r : Rho} {d : D} (h : r[i]? = some (some d)) : dVar i r = .ok d := by unfold dVar; rw [h]
theorem of_dVar {σ : St} {S H : Hp} {i : Nat} {r : Rho} {k : D → Hp → Hp → Prop} (p : PostG c σ S H (dVar i r) k) : ∃ d, r[i]? = some (some d) ∧ PostG c σ S H (.ok d) k := by
  unfold dVar at p
  split at p
  · exact ⟨_, by assumption, p⟩
  · exact p.elim
theorem de_var (i : Nat) {x : Str} (h : PE X (.Name x pos) (tVar i)) (k : kd G i = .v) : PE X (.Name x pos) (tV c G (dVar i)) := pe_imp h fun σ H Q ⟨S0, H0, S, r, ok, p⟩ => by
  obtain ⟨d, hd, p⟩ := of_dVar p
  obtain ⟨v, h1, h2⟩ := ok.slot i d hd
  rw [k] at h2
  exact ⟨v, h1, p.here ok.ex h2⟩
theorem db_var (i : Nat) {x : Str} (h : PE X (.Name x pos) (tVar i)) (k : kd G i = .v ∨ kd G i = .o ∨ kd G i = .b) : PE X (.Name x pos) (tR c G (dVar i)) := pe_imp h fun σ H Q ⟨S0, H0, S, r, ok, p⟩ => by
  obtain ⟨d, hd, p⟩ := of_dVar p
  obtain ⟨v, h1, h2⟩ := ok.slot i d hd
  refine ⟨v, h1, p.here ok.ex ?_⟩
  rcases k with k | k | k
  · rw [k] at h2; exact .inl h2
  · rw [k] at h2
    obtain ⟨q, ho, z1, z2, z3, z4, z5⟩ := h2
    exact .inr ⟨q, ho, z1, z2, z5⟩
  · rw [k] at h2
    exact RpB.mono h2 Ex.refl ok.fwd.h
theorem de_c {v : V} {d : D} (h : PE X e (tC v)) (hd : ∀ S, Rp c.K c.cm S v d) : PE X e (tV c G (dC d)) := pe_imp h fun σ H Q ⟨S0, H0, S, r, ok, p⟩ => p.here ok.ex (hd S)
theorem de_int {i : Int} {j : Nat} : PE X (.Constant (.int i) j pos) (tV c G (dC (.int i))) := de_c pe_int fun _ => .int i
theorem de_bl {b : Bool} {j : Nat} : PE X (.Constant (.bool b) j pos) (tV c G (dC (.bl b))) := de_c pe_bl fun _ => .bl b
theorem de_non {j : Nat} : PE X (.Constant .none j pos) (tV c G (dC .non)) := de_c pe_non fun _ => .non
theorem de_str {x : Str} {j : Nat} : PE X (.Constant (.str x) j pos) (tV c G (dC (.str x))) := de_c pe_str fun _ => .str x

/-! ### two operands -/
def dOp (g : D → D → Res D) (f1 f2 : Rho → Res D) : Rho → Res D := fun r => (f1 r).bind fun x => (f2 r).bind fun y => g x y
def OpS (c : Cf) (R : Md V D) (r2 : R2) (g : D → D → Res D) : Prop := ∀ (σ : St) (S H : Hp) (x y : V) (d e : D) (Q : VK), Ex S H → RpB c.K c.cm S H x d → RpB c.K c.cm S H y e →
  PostG c σ S H (g d e) (fun a S' H' => ∀ b, R H S' H' b a → Q b H') → r2 x y H Q
theorem op_rd {R : Md V D} [Anti R] {r2 : R2} {g : D → D → Res D} (hs : OpS c R r2 g) : ∀ σ H Q, rd c G (dOp g f1 f2) R σ H Q → tOp r2 (tR c G f1) (tR c G f2) σ H Q := fun σ H Q ⟨S0, H0, S, r, ok, p⟩ =>
  rd_seq ok p fun x v S1 H1 w1 o1 m1 p1 => rd_seq o1 p1 fun y u S2 H2 w2 o2 m2 p2 => hs σ S2 H2 v u x y Q o2.ex (RpB.mono m1 w2.s w2.h) m2 (p2.anti (w1.h.trans w2.h))
theorem de_op {R : Md V D} [Anti R] {op : Operator} {r2 : R2} {g : D → D → Res D} (ho : OpR X (binaryOp op) r2) (hs : OpS c R r2 g) (ha : PE X a (tR c G f1)) (hb : PE X b (tR c G f2)) : PE X (.BinOp a op b pos) (rd c G (dOp g f1 f2) R) :=
  pe_imp (pe_op ho ha hb) (op_rd hs)
theorem de_cmp {R : Md V D} [Anti R] {op : CmpOp} {r2 : R2} {g : D → D → Res D} (ho : OpR X (compareOp op) r2) (hs : OpS c R r2 g) (ha : PE X a (tR c G f1)) (hb : PE X b (tR c G f2)) (hm : behindInMarks op b = false) :
    PE X (.Compare a [op] [b] pos) (rd c G (dOp g f1 f2) R) := pe_imp (pe_cmpR ho ha hb hm) (op_rd hs)
/-- a truth value as a test -/
def asB : D → Res Bool
  | .bl b => .ok b
  | _ => .bad
def dT (f : Rho → Res D) : Rho → Res Bool := fun r => (f r).bind asB
theorem of_asB {σ : St} {S H : Hp} {d : D} {k : Bool → Hp → Hp → Prop} (p : PostG c σ S H (asB d) k) : ∃ b, d = .bl b ∧ PostG c σ S H (.ok b) k := by
  cases d with
  | bl b => exact ⟨b, rfl, p⟩
  | _ => exact p.elim
theorem dt_cmp {op : CmpOp} {r2 : R2} {g : D → D → Res D} (ho : OpR X (compareOp op) r2) (hs : OpS c (mV c) r2 g) (ha : PE X a (tR c G f1)) (hb : PE X b (tR c G f2)) (hm : behindInMarks op b = false) :
    PT X (.Compare a [op] [b] pos) (tT c G (dT (dOp g f1 f2))) := pt_imp (pt_cmpR ho ha hb hm) fun σ H Q ⟨S0, H0, S, r, ok, p⟩ => by
  refine op_rd (G := G) (f1 := f1) (f2 := f2) hs σ H _ (rd_seq ok p fun d v S1 H1 w1 o1 m1 p1 => ?_)
  obtain ⟨b, rfl, p1⟩ := of_asB p1
  cases m1
  exact ⟨b, rfl, p1.go o1.ex _ rfl⟩
/-- an expression whose value is True or False, as a test -/
theorem dt_val (h : PE X e (tV c G f)) (he : ∀ whole, isTrue e X.env whole = (do let v ← whole; standAt e.pos; holding [v] (truthy v)) := by intro _; rfl) : PT X e (tT c G (dT f)) :=
  pt_imp (pt_val h he) fun σ H Q ⟨S0, H0, S, r, ok, p⟩ => rd_seq ok p fun d v S1 H1 w1 o1 m1 p1 => by
    obtain ⟨b, rfl, p1⟩ := of_asB p1
    cases m1
    exact ⟨b, rfl, p1.go o1.ex _ rfl⟩
/-! ### and, or, not, if else -/
variable {t1 t2 : Rho → Res Bool} {rest : List Expr}
def dAnd (t u : Rho → Res Bool) : Rho → Res Bool := fun r => (t r).bind fun b => if b = true then u r else .ok false
def dOr (t u : Rho → Res Bool) : Rho → Res Bool := fun r => (t r).bind fun b => if b = true then .ok true else u r
def dNot (t : Rho → Res Bool) : Rho → Res Bool := fun r => (t r).bind fun b => .ok (!b)
def dIf {α : Type} (t : Rho → Res Bool) (f g : Rho → Res α) : Rho → Res α := fun r => (t r).bind fun b => if b = true then f r else g r
theorem pw_imp {t t' : TT} (h : PW X e t) (k : ∀ σ H Q, t' σ H Q → t σ H Q) : PW X e t' := ⟨fun w pins s σ H Q I q => h.run w pins s σ H Q I (k σ H Q q)⟩
theorem dw_and1 (ha : PT X a (tT c G t1)) : PW X (.BoolOp .And [a] pos) (tT c G t1) := pw_and1 ha
theorem dw_or1 (ha : PT X a (tT c G t1)) : PW X (.BoolOp .Or [a] pos) (tT c G t1) := pw_or1 ha
theorem dw_and (ha : PT X a (tT c G t1)) (hb : PW X (.BoolOp .And (b :: rest) pos) (tT c G t2)) : PW X (.BoolOp .And (a :: b :: rest) pos) (tT c G (dAnd t1 t2)) := pw_imp (pw_and ha hb) fun σ H Q ⟨S0, H0, S, r, ok, p⟩ =>
  rd_seq ok p fun x v S1 H1 w1 o1 m1 p1 => by
    rw [show v = x from m1]
    cases x with
    | true => exact ⟨S0, H0, S1, r, o1, p1⟩
    | false => exact p1.go o1.ex _ rfl
theorem dw_or (ha : PT X a (tT c G t1)) (hb : PW X (.BoolOp .Or (b :: rest) pos) (tT c G t2)) : PW X (.BoolOp .Or (a :: b :: rest) pos) (tT c G (dOr t1 t2)) := pw_imp (pw_or ha hb) fun σ H Q ⟨S0, H0, S, r, ok, p⟩ =>
  rd_seq ok p fun x v S1 H1 w1 o1 m1 p1 => by
    rw [show v = x from m1]
    cases x with
    | true => exact p1.go o1.ex _ rfl
    | false => exact ⟨S0, H0, S1, r, o1, p1⟩
theorem dt_not (ha : PT X a (tT c G t1)) : PT X (.UnaryOp .Not a pos) (tT c G (dNot t1)) := pt_imp (pt_not ha) fun σ H Q ⟨S0, H0, S, r, ok, p⟩ =>
  rd_seq ok p fun x v S1 H1 w1 o1 m1 p1 => by
    rw [show v = x from m1]
    exact p1.go o1.ex _ rfl
theorem de_ifx {R : Md V D} [Anti R] {cnd : Expr} (hc : PT X cnd (tT c G t1)) (ha : PE X a (rd c G f1 R)) (hb : PE X b (rd c G f2 R)) : PE X (.IfExp cnd a b pos) (rd c G (dIf t1 f1 f2) R) := pe_imp (pe_ifExp hc ha hb) fun σ H Q ⟨S0, H0, S, r, ok, p⟩ =>
  rd_seq ok p fun x v S1 H1 w1 o1 m1 p1 => by
    rw [show v = x from m1]
    cases x with
    | true => exact ⟨S0, H0, S1, r, o1, p1.anti w1.h⟩
    | false => exact ⟨S0, H0, S1, r, o1, p1.anti w1.h⟩
/-- and, or, not as values: all True or False -/
def dAndV (f g : Rho → Res D) : Rho → Res D := fun r => (f r).bind fun x => (asB x).bind fun b => if b = true then g r else .ok (.bl false)
def dOrV (f g : Rho → Res D) : Rho → Res D := fun r => (f r).bind fun x => (asB x).bind fun b => if b = true then .ok (.bl true) else g r
def dNotV (f : Rho → Res D) : Rho → Res D := fun r => (f r).bind fun x => (asB x).bind fun b => .ok (.bl (!b))
end
end Dx

end S_DxB
section S_DxC
set_option Elab.async false
set_option linter.all false
set_option maxRecDepth 100000
set_option maxHeartbeats 2000000
/-! Dx, part C: the operators on data. -/
namespace Dx
open PySem L2

/-! ### data as the library's data -/
mutual
def toPy : D → Option PyData
  | .non => some .none
  | .bl b => some (.bool b)
  | .int i => some (.int i)
  | .str s => some (.str s)
  | .lst ds => (toPyL ds).map .list
  | .fz ds => (toPyL ds).map .list
  | .tup ds => (toPyL ds).map .tuple
  | .dk _ _ => none
  | .dt _ _ => none
  | .obj _ _ _ => none
def toPyL : List D → Option (List PyData)
  | [] => some []
  | d :: ds => match toPy d, toPyL ds with
    | some p, some ps => some (p :: ps)
    | _, _ => none
end
section
variable {K : PySem.W.Frag} {cm : CM} {S H : Hp}
mutual
theorem Rp.dp (e : Ex S H) : ∀ {v : V} {d : D} {p : PyData}, Rp K cm S v d → toPy d = some p → Dp K H v p
  | _, .non, _, h, q => by cases h; cases q; exact .non
  | _, .bl _, _, h, q => by cases h; cases q; exact .bl _
  | _, .int _, _, h, q => by cases h; cases q; exact .int _
  | _, .str _, _, h, q => by cases h; cases q; exact .str _
  | _, .lst ds, _, h, q => by
    cases h with | lst a r =>
    rw [toPy] at q
    obtain ⟨ps, h1, rfl⟩ := Option.map_eq_some_iff.mp q
    exact .lst (.inl (.inl (e _ _ a))) (RpA.dp e r h1)
  | _, .fz ds, _, h, q => by
    cases h with | fz a r =>
    rw [toPy] at q
    obtain ⟨ps, h1, rfl⟩ := Option.map_eq_some_iff.mp q
    exact .lst (e.l a) (RpA.dp e r h1)
  | _, .tup ds, _, h, q => by
    cases h with | tup a r =>
    rw [toPy] at q
    obtain ⟨ps, h1, rfl⟩ := Option.map_eq_some_iff.mp q
    exact .tup (e.t a) (RpA.dp e r h1)
  | _, .dk _ _, _, h, q => by cases q
  | _, .dt _ _, _, h, q => by cases q
  | _, .obj _ _ _, _, h, q => by cases q
theorem RpA.dp (e : Ex S H) : ∀ {vs : List V} {ds : List D} {ps : List PyData}, RpA K cm S vs ds → toPyL ds = some ps → DpAll K H vs ps
  | _, [], _, h, q => by cases h; cases q; exact .nil
  | _, d :: ds, _, h, q => by
    cases h with | cons a r =>
    rw [toPyL] at q
    cases h1 : toPy d with
    | none => rw [h1] at q; cases q
    | some p =>
      cases h2 : toPyL ds with
      | none => rw [h1, h2] at q; cases q
      | some ps =>
        rw [h1, h2] at q
        cases q
        exact .cons (Rp.dp e a h1) (RpA.dp e r h2)
end
theorem RpB.dp {v : V} {d : D} {p : PyData} (e : Ex S H) (h : RpB K cm S H v d) (q : toPy d = some p) : Dp K H v p := by
  rcases h with h | ⟨a, ho, rfl, h2, h3⟩
  · exact h.dp e q
  · cases h3 with
    | lst r =>
      rw [toPy] at q
      obtain ⟨ps, h1, rfl⟩ := Option.map_eq_some_iff.mp q
      exact .lst (.inl (.inl h2)) (r.dp e h1)
    | dk _ _ => cases q
    | dt _ _ => cases q
    | obj _ _ _ => cases q
end

/-! ### + - * // % -/
noncomputable def addD : D → D → Res D
  | .int i, .int j => .ok (.int (i + j))
  | .str a, .str b => guard (a.length + b.length ≤ sizeLine) (.ok (.str (a ++ b)))
  | .tup a, .tup b => guard (a.length + b.length ≤ sizeLine) (.ok (.tup (a ++ b)))
  | .lst a, .lst b => guard (a.length + b.length ≤ sizeLine) (.ok (.lst (a ++ b)))
  | _, _ => .bad
def rAddX (K : PySem.W.Frag) : R2 := fun x y H Q => (rI0 (fun i j => .int (i + j))) x y H Q ∨ (∃ i j, x = .str i ∧ y = .str j ∧ i.length + j.length ≤ sizeLine ∧ Q (.str (i ++ j)) H) ∨ rCatA K x y H Q ∨ rCat x y H Q
section
variable {X : Cx} {c : Cf}
theorem or_add : OpR X (binaryOp .Add) (rAddX X.K) := op_add.or (op_add_str.or (op_catA.or op_cat))
theorem PostG.ite {σ : St} {S H : Hp} {α : Type} {p : Prop} [Decidable p] {x : Res α} {k : α → Hp → Hp → Prop} (h : PostG c σ S H (if p then x else .bad) k) : p ∧ PostG c σ S H x k := by
  by_cases hp : p
  · rw [if_pos hp] at h; exact ⟨hp, h⟩
  · rw [if_neg hp] at h; exact h.elim
theorem os_add : OpS c (mV c) (rAddX c.K) addD := by
  intro σ S H x y d e Q ex hx hy p
  unfold addD at p
  split at p
  · cases hx.int; cases hy.int
    exact .inl ⟨_, _, rfl, rfl, p.here ex (.int _)⟩
  · cases hx.str; cases hy.str
    obtain ⟨hl, p⟩ := p.gd
    exact .inr (.inl ⟨_, _, rfl, rfl, hl, p.here ex (.str _)⟩)
  · obtain ⟨q1, xs, rfl, a1, r1, s1⟩ := hx.tup ex
    obtain ⟨q2, ys, rfl, a2, r2, s2⟩ := hy.tup ex
    obtain ⟨hl, p⟩ := p.gd
    refine .inr (.inr (.inl ⟨_, _, xs, ys, rfl, rfl, a1, a2, by rw [r1.length, r2.length]; exact hl, fun h => ?_, fun _ h => ?_, fun _ _ q hq => ?_⟩))
    · subst h; cases r1; exact p.here ex (.tup s2 r2)
    · subst h; cases r2; rw [List.append_nil] at p; exact p.here ex (.tup s1 r1)
    · exact p.laid ex hq (.tup (.inl (.inl upd_same)) ((r1.app r2).mono (Ex.new (ex.nn hq))))
  · obtain ⟨q1, xs, rfl, a1, r1⟩ := hx.list ex
    obtain ⟨q2, ys, rfl, a2, r2⟩ := hy.list ex
    obtain ⟨hl, p⟩ := p.gd
    refine .inr (.inr (.inr ⟨_, _, xs, ys, rfl, rfl, a1, a2, by rw [r1.length, r2.length]; exact hl, fun q hq => ?_⟩))
    exact p.laid ex hq (.lst upd_same ((r1.app r2).mono (Ex.new (ex.nn hq))))
  · exact p.elim
/-- list + list, the new list one's own -/
noncomputable def addL : D → D → Res D
  | .lst a, .lst b => guard (a.length + b.length ≤ sizeLine) (.ok (.lst (a ++ b)))
  | _, _ => .bad
theorem os_addL : OpS c (mO c) rCat addL := by
  intro σ S H x y d e Q ex hx hy p
  unfold addL at p
  split at p
  · obtain ⟨q1, xs, rfl, a1, r1⟩ := hx.list ex
    obtain ⟨q2, ys, rfl, a2, r2⟩ := hy.list ex
    obtain ⟨hl, p⟩ := p.gd
    exact ⟨_, _, xs, ys, rfl, rfl, a1, a2, by rw [r1.length, r2.length]; exact hl, fun q hq => p.kept ex hq (.lst (r1.app r2))⟩
  · exact p.elim
def subD : D → D → Res D
  | .int i, .int j => .ok (.int (i - j))
  | _, _ => .bad
theorem os_sub : OpS c (mV c) (rI0 fun i j => .int (i - j)) subD := by
  intro σ S H x y d e Q ex hx hy p
  unfold subD at p
  split at p
  · cases hx.int; cases hy.int
    exact ⟨_, _, rfl, rfl, p.here ex (.int _)⟩
  · exact p.elim
def smallI (i : Int) : Prop := -(2 ^ 64) < i ∧ i < 2 ^ 64
theorem RpA.rep {K : PySem.W.Frag} {cm : CM} {S : Hp} {vs : List V} {ds : List D} (h : RpA K cm S vs ds) : ∀ n : Nat, RpA K cm S (List.replicate n vs).flatten (List.replicate n ds).flatten
  | 0 => .nil
  | n + 1 => by rw [List.replicate_succ, List.replicate_succ, List.flatten_cons, List.flatten_cons]; exact h.app (RpA.rep h n)
noncomputable def mulD : D → D → Res D
  | .int i, .int j => guard (smallI i ∨ smallI j) (.ok (.int (i * j)))
  | .lst a, .int k => guard (0 ≤ k ∧ k < 2 ^ 60 ∧ a.length * k.toNat ≤ sizeLine) (.ok (.lst (List.replicate k.toNat a).flatten))
  | _, _ => .bad
def rMulX : R2 := fun x y H Q => (rI CMul (fun i j => .int (i * j))) x y H Q ∨ rRep x y H Q
theorem or_mul : OpR X (binaryOp .Mult) rMulX := op_mul.or op_rep
theorem os_mul : OpS c (mV c) rMulX mulD := by
  intro σ S H x y d e Q ex hx hy p
  unfold mulD at p
  split at p
  · cases hx.int; cases hy.int
    obtain ⟨hl, p⟩ := p.gd
    exact .inl ⟨_, _, rfl, rfl, hl, p.here ex (.int _)⟩
  · obtain ⟨q1, xs, rfl, a1, r1⟩ := hx.list ex
    cases hy.int
    obtain ⟨⟨h0, h1, h2⟩, p⟩ := p.gd
    refine .inr ⟨_, _, xs, rfl, rfl, a1, by omega, by omega, by rw [r1.length]; exact h2, fun q hq => ?_⟩
    exact p.laid ex hq (.lst upd_same ((r1.rep _).mono (Ex.new (ex.nn hq))))
  · exact p.elim
noncomputable def fdivD : D → D → Res D
  | .int i, .int j => if 0 < j then guard (j < 4611686018427387904) (.ok (.int (i / j))) else guard (j ≠ 0 ∧ j.natAbs < 1073741824) (.ok (.int (i.fdiv j)))
  | _, _ => .bad
def rFdivX : R2 := fun x y H Q => (rI CDivW (fun i j => .int (i / j))) x y H Q ∨ (rI CDivN (fun i j => .int (i.fdiv j))) x y H Q
theorem or_fdiv : OpR X (binaryOp .FloorDiv) rFdivX := op_fdivW.or op_fdivN
theorem os_fdiv : OpS c (mV c) rFdivX fdivD := by
  intro σ S H x y d e Q ex hx hy p
  unfold fdivD at p
  split at p
  · cases hx.int; cases hy.int
    split at p
    · rename_i h
      obtain ⟨h2, p⟩ := p.gd
      exact .inl ⟨_, _, rfl, rfl, wide_div (b := 62) h (by omega) (by decide) (by decide), p.here ex (.int _)⟩
    · obtain ⟨h, p⟩ := p.gd
      exact .inr ⟨_, _, rfl, rfl, h, p.here ex (.int _)⟩
  · exact p.elim
noncomputable def modD : D → D → Res D
  | .int i, .int j => guard (0 < j) (.ok (.int (i % j)))
  | _, _ => .bad
theorem os_mod : OpS c (mV c) (rI (fun _ j => 0 < j) fun i j => .int (i % j)) modD := by
  intro σ S H x y d e Q ex hx hy p
  unfold modD at p
  split at p
  · cases hx.int; cases hy.int
    obtain ⟨h, p⟩ := p.gd
    exact ⟨_, _, rfl, rfl, h, p.here ex (.int _)⟩
  · exact p.elim
def intsD (g : Int → Int → Int) : D → D → Res D
  | .int i, .int j => .ok (.int (g i j))
  | _, _ => .bad
theorem os_ints {g : Int → Int → Int} : OpS c (mV c) (rI0 fun i j => .int (g i j)) (intsD g) := by
  intro σ S H x y d e Q ex hx hy p
  unfold intsD at p
  split at p
  · cases hx.int; cases hy.int
    exact ⟨_, _, rfl, rfl, p.here ex (.int _)⟩
  · exact p.elim

/-! ### comparisons -/
def eqFlat : D → D → Option Bool
  | .int i, .int j => some (decide (i = j))
  | .str a, .str b => some (decide (a = b))
  | .bl a, .bl b => some (decide (a = b))
  | .non, .non => some true
  | .non, .int _ => some false
  | .non, .bl _ => some false
  | .non, .str _ => some false
  | .int _, .non => some false
  | .bl _, .non => some false
  | .str _, .non => some false
  | .int _, .str _ => some false
  | .str _, .int _ => some false
  | .bl _, .str _ => some false
  | .str _, .bl _ => some false
  | _, _ => none
def eqDeep (d e : D) : Res Bool := match toPy d, toPy e with
  | some p, some q => if SeqAt.shaped p = true ∧ SeqAt.shaped q = true then .ok (PyData.eqv p q) else .bad
  | _, _ => .bad
def eqB (d e : D) : Res Bool := match eqFlat d e with
  | some b => .ok b
  | none => eqDeep d e
def eqD (d e : D) : Res D := (eqB d e).bind fun b => .ok (.bl b)
def neD (d e : D) : Res D := (eqB d e).bind fun b => .ok (.bl (!b))
theorem of_eqDeep {σ : St} {S H : Hp} {x y : V} {d e : D} {g : Bool → Res D} {k : D → Hp → Hp → Prop} (ex : Ex S H) (hx : RpB c.K c.cm S H x d) (hy : RpB c.K c.cm S H y e) (p : PostG c σ S H ((eqDeep d e).bind g) k) :
    ∃ u v, Dp c.K H x u ∧ Dp c.K H y v ∧ SeqAt.shaped u = true ∧ SeqAt.shaped v = true ∧ PostG c σ S H (g (PyData.eqv u v)) k := by
  unfold eqDeep at p
  split at p
  · rename_i u v h1 h2
    by_cases hs : SeqAt.shaped u = true ∧ SeqAt.shaped v = true
    · rw [if_pos hs] at p
      exact ⟨u, v, hx.dp ex h1, hy.dp ex h2, hs.1, hs.2, p⟩
    · rw [if_neg hs] at p
      exact p.elim
  · exact p.elim
theorem of_eqFlat {S H : Hp} {x y : V} {d e : D} {b : Bool} (hx : RpB c.K c.cm S H x d) (hy : RpB c.K c.cm S H y e) (h : eqFlat d e = some b) : scal x y = true ∧ decide (x = y) = b := by
  unfold eqFlat at h
  split at h
  · cases hx.int; cases hy.int; cases h; exact ⟨rfl, by simp⟩
  · cases hx.str; cases hy.str; cases h; exact ⟨rfl, by simp⟩
  · cases hx.bl; cases hy.bl; cases h; exact ⟨rfl, by simp⟩
  · cases hx.non; cases hy.non; cases h; exact ⟨rfl, rfl⟩
  · cases hx.non; cases hy.int; cases h; exact ⟨rfl, rfl⟩
  · cases hx.non; cases hy.bl; cases h; exact ⟨rfl, rfl⟩
  · cases hx.non; cases hy.str; cases h; exact ⟨rfl, rfl⟩
  · cases hx.int; cases hy.non; cases h; exact ⟨rfl, rfl⟩
  · cases hx.bl; cases hy.non; cases h; exact ⟨rfl, rfl⟩
  · cases hx.str; cases hy.non; cases h; exact ⟨rfl, rfl⟩
  · cases hx.int; cases hy.str; cases h; exact ⟨rfl, rfl⟩
  · cases hx.str; cases hy.int; cases h; exact ⟨rfl, rfl⟩
  · cases hx.bl; cases hy.str; cases h; exact ⟨rfl, rfl⟩
  · cases hx.str; cases hy.bl; cases h; exact ⟨rfl, rfl⟩
  · cases h
def rEqX (K : PySem.W.Frag) : R2 := fun x y H Q => rEq x y H Q ∨ rEqD K x y H Q
def rNeX (K : PySem.W.Frag) : R2 := fun x y H Q => rNe x y H Q ∨ rNeD K x y H Q
theorem or_eq (hu : X.A.units + 64 < cLine) : OpR X (compareOp .Eq) (rEqX X.K) := op_eq.or (op_eqD hu)
theorem or_ne (hu : X.A.units + 64 < cLine) : OpR X (compareOp .NotEq) (rNeX X.K) := op_ne.or (op_neD hu)
theorem os_eq : OpS c (mV c) (rEqX c.K) eqD := by
  intro σ S H x y d e Q ex hx hy p
  unfold eqD eqB at p
  split at p
  · rename_i b hb
    obtain ⟨h1, h2⟩ := of_eqFlat hx hy hb
    refine .inl ⟨h1, ?_⟩
    rw [h2]; exact p.here ex (.bl _)
  · obtain ⟨u, v, h1, h2, h3, h4, p⟩ := of_eqDeep ex hx hy p
    exact .inr ⟨u, v, h1, h2, h3, h4, p.here ex (.bl _)⟩
theorem os_ne : OpS c (mV c) (rNeX c.K) neD := by
  intro σ S H x y d e Q ex hx hy p
  unfold neD eqB at p
  split at p
  · rename_i b hb
    obtain ⟨h1, h2⟩ := of_eqFlat hx hy hb
    refine .inl ⟨h1, ?_⟩
    rw [h2]; exact p.here ex (.bl _)
  · obtain ⟨u, v, h1, h2, h3, h4, p⟩ := of_eqDeep ex hx hy p
    exact .inr ⟨u, v, h1, h2, h3, h4, p.here ex (.bl _)⟩
/-- by ints, by texts -/
def ordD (g : Int → Int → Bool) (h : Str → Str → Bool) : D → D → Res D
  | .int i, .int j => .ok (.bl (g i j))
  | .str a, .str b => .ok (.bl (h a b))
  | _, _ => .bad
def rOrd (g : Int → Int → Bool) (h : Str → Str → Bool) : R2 := fun x y H Q => (rI0 fun i j => .bl (g i j)) x y H Q ∨ ∃ i j, x = .str i ∧ y = .str j ∧ Q (.bl (h i j)) H
theorem os_ord {g : Int → Int → Bool} {h : Str → Str → Bool} : OpS c (mV c) (rOrd g h) (ordD g h) := by
  intro σ S H x y d e Q ex hx hy p
  unfold ordD at p
  split at p
  · cases hx.int; cases hy.int
    exact .inl ⟨_, _, rfl, rfl, p.here ex (.bl _)⟩
  · cases hx.str; cases hy.str
    exact .inr ⟨_, _, rfl, rfl, p.here ex (.bl _)⟩
  · exact p.elim
abbrev sLt (i j : Str) : Bool := decide (i.cps.toList < j.cps.toList)
abbrev ltD : D → D → Res D := ordD (fun i j => decide (i < j)) fun i j => decide (i.cps.toList < j.cps.toList)
abbrev leD : D → D → Res D := ordD (fun i j => decide (i ≤ j)) fun i j => !decide (j.cps.toList < i.cps.toList)
abbrev gtD : D → D → Res D := ordD (fun i j => decide (j < i)) fun i j => decide (j.cps.toList < i.cps.toList)
abbrev geD : D → D → Res D := ordD (fun i j => decide (j ≤ i)) fun i j => !decide (i.cps.toList < j.cps.toList)
theorem or_lt : OpR X (compareOp .Lt) (rOrd (fun i j => decide (i < j)) fun i j => decide (i.cps.toList < j.cps.toList)) := op_lt.or op_lt_str
theorem or_le : OpR X (compareOp .LtE) (rOrd (fun i j => decide (i ≤ j)) fun i j => !decide (j.cps.toList < i.cps.toList)) := op_le.or op_le_str
theorem or_gt : OpR X (compareOp .Gt) (rOrd (fun i j => decide (j < i)) fun i j => decide (j.cps.toList < i.cps.toList)) := op_gt.or op_gt_str
theorem or_ge : OpR X (compareOp .GtE) (rOrd (fun i j => decide (j ≤ i)) fun i j => !decide (i.cps.toList < j.cps.toList)) := op_ge.or op_ge_str
/-- is None, is not None -/
def isN : D → Bool
  | .non => true
  | _ => false
def isD (neg : Bool) (d e : D) : Res D := if isN e = true then .ok (.bl (if neg then !isN d else isN d)) else .bad
theorem RpB.isN {K : PySem.W.Frag} {cm : CM} {S H : Hp} {v : V} {d : D} (h : RpB K cm S H v d) : decide (v = .non) = isN d := by
  rcases h with h | ⟨p, ho, rfl, h2, h3⟩
  · cases h <;> rfl
  · cases h3 <;> rfl
theorem os_is : OpS c (mV c) (fun x y H Q => y = .non ∧ Q (.bl (decide (x = .non))) H) (isD false) := by
  intro σ S H x y d e Q ex hx hy p
  obtain ⟨h, p⟩ := p.ite
  rw [hx.isN]
  refine ⟨of_decide_eq_true (hy.isN.trans h), p.here ex (.bl _)⟩
theorem os_isnot : OpS c (mV c) (fun x y H Q => y = .non ∧ Q (.bl (!decide (x = .non))) H) (isD true) := by
  intro σ S H x y d e Q ex hx hy p
  obtain ⟨h, p⟩ := p.ite
  rw [hx.isN]
  refine ⟨of_decide_eq_true (hy.isN.trans h), p.here ex (.bl _)⟩
/-- x in: a list of data, a text in a text, a flat thing in a tuple of flat things -/
def flatD : D → Option V
  | .non => some .non
  | .bl b => some (.bl b)
  | .int i => some (.int i)
  | .str s => some (.str s)
  | _ => none
def flatDs : List D → Option (List V)
  | [] => some []
  | d :: ds => match flatD d, flatDs ds with
    | some v, some vs => some (v :: vs)
    | _, _ => none
def inDeep (d : D) (ds : List D) : Res Bool := match toPy d, toPyL ds with
  | some p, some ps => if SeqAt.shaped p = true ∧ SeqAt.shaped (.list ps) = true then .ok (ps.any fun z => PyData.eqv z p) else .bad
  | _, _ => .bad
def inFlat (d : D) (ds : List D) : Option Bool := match flatD d, flatDs ds with
  | some v, some vs => some (inV v vs)
  | _, _ => none
def inLst (d : D) (ds : List D) : Res Bool := match inFlat d ds with
  | some b => .ok b
  | none => inDeep d ds
def inTup (d : D) (ds : List D) : Res Bool := match inFlat d ds with
  | some b => .ok b
  | none => .bad
def inStr (a b : Str) : Bool := match a.cps.toList with
  | [n] => decide (n ∈ b.cps.toList)
  | _ => !(Builtin.Str.occurrences b a 0 b.length 1).isEmpty
def inB : D → D → Res Bool
  | d, .lst ds => inLst d ds
  | d, .fz ds => inLst d ds
  | d, .tup ds => inTup d ds
  | .str a, .str b => .ok (inStr a b)
  | _, _ => .bad
def inD (d e : D) : Res D := (inB d e).bind fun b => .ok (.bl b)
def ninD (d e : D) : Res D := (inB d e).bind fun b => .ok (.bl (!b))
theorem RpB.flat {K : PySem.W.Frag} {cm : CM} {S H : Hp} {v u : V} {d : D} (h : RpB K cm S H v d) (q : flatD d = some u) : v = u ∧ flatV u = true := by
  rcases h with h | ⟨p, ho, rfl, h2, h3⟩
  · cases h <;> first | (cases q; exact ⟨rfl, rfl⟩) | cases q
  · cases h3 <;> cases q
theorem RpA.flat {K : PySem.W.Frag} {cm : CM} {S : Hp} : ∀ {vs us : List V} {ds : List D}, RpA K cm S vs ds → flatDs ds = some us → vs = us ∧ us.all flatV = true
  | _, _, [], h, q => by cases h; cases q; exact ⟨rfl, rfl⟩
  | _, _, d :: ds, h, q => by
    cases h with | cons a r =>
    rw [flatDs] at q
    cases h1 : flatD d with
    | none => rw [h1] at q; cases q
    | some u =>
      cases h2 : flatDs ds with
      | none => rw [h1, h2] at q; cases q
      | some us =>
        rw [h1, h2] at q
        cases q
        obtain ⟨rfl, z1⟩ := RpB.flat (H := S) (.inl a) h1
        obtain ⟨rfl, z2⟩ := RpA.flat r h2
        exact ⟨rfl, by simp [z1, z2]⟩
def rInX (K : PySem.W.Frag) (neg : Bool) : R2 := fun x y H Q => (∃ d ds, Dp K H x d ∧ Dp K H y (.list ds) ∧ SeqAt.shaped d = true ∧ SeqAt.shaped (.list ds) = true ∧ Q (.bl (if neg then !ds.any fun z => PyData.eqv z d else ds.any fun z => PyData.eqv z d)) H) ∨
  rIn K neg x y H Q ∨ (∃ i j, x = .str i ∧ y = .str j ∧ Q (.bl (if neg then !(!(Builtin.Str.occurrences j i 0 j.length 1).isEmpty) else !(Builtin.Str.occurrences j i 0 j.length 1).isEmpty)) H) ∨
  ∃ (n : Nat) (z : Str), x = .str ⟨#[n]⟩ ∧ y = .str z ∧ Q (.bl (if neg then !decide (n ∈ z.cps.toList) else decide (n ∈ z.cps.toList))) H
theorem or_in (hu : X.A.units + 65 < cLine) : OpR X (compareOp .In) (rInX X.K false) := (op_inD hu).or (op_in_seq.or (op_in_str.or op_in_sign))
theorem or_nin (hu : X.A.units + 65 < cLine) : OpR X (compareOp .NotIn) (rInX X.K true) := (op_notInD hu).or (op_notIn_seq.or (op_notIn_str.or op_notIn_sign))
theorem of_inFlat {S H : Hp} {x : V} {d : D} {xs : List V} {ds : List D} {b : Bool} (hx : RpB c.K c.cm S H x d) (r1 : RpA c.K c.cm S xs ds) (h : inFlat d ds = some b) : flatV x = true ∧ xs.all flatV = true ∧ inV x xs = b := by
  unfold inFlat at h
  split at h
  · rename_i v vs h1 h2
    obtain ⟨rfl, z1⟩ := hx.flat h1
    obtain ⟨rfl, z2⟩ := r1.flat h2
    cases h
    exact ⟨z1, z2, rfl⟩
  · cases h
theorem of_inLst {σ : St} {S H : Hp} {x y : V} {d : D} {ds : List D} {neg : Bool} {Q : VK} {q : Addr} {xs : List V} (ex : Ex S H) (hx : RpB c.K c.cm S H x d) (hy : y = .ref q) (a1 : SqL c.K H q xs) (r1 : RpA c.K c.cm S xs ds) (hd : ∀ ps, toPyL ds = some ps → Dp c.K H y (.list ps))
    (p : PostG c σ S H ((inLst d ds).bind fun b => .ok (.bl (if neg then !b else b))) fun a S' H' => ∀ b, mV c H S' H' b a → Q b H') : rInX c.K neg x y H Q := by
  unfold inLst at p
  split at p
  · rename_i b hb
    obtain ⟨z1, z2, z3⟩ := of_inFlat hx r1 hb
    refine .inr (.inl ⟨q, xs, hy, .inl a1, z1, z2, ?_⟩)
    rw [z3]; exact p.here ex (.bl _)
  · unfold inDeep at p
    split at p
    · rename_i p' ps h1 h2
      by_cases hs : SeqAt.shaped p' = true ∧ SeqAt.shaped (.list ps) = true
      · rw [if_pos hs] at p
        exact .inl ⟨p', ps, hx.dp ex h1, hd ps h2, hs.1, hs.2, p.here ex (.bl _)⟩
      · rw [if_neg hs] at p; exact p.elim
    · exact p.elim
theorem of_inB {σ : St} {S H : Hp} {x y : V} {d e : D} {neg : Bool} {Q : VK} (ex : Ex S H) (hx : RpB c.K c.cm S H x d) (hy : RpB c.K c.cm S H y e)
    (p : PostG c σ S H ((inB d e).bind fun b => .ok (.bl (if neg then !b else b))) fun a S' H' => ∀ b, mV c H S' H' b a → Q b H') : rInX c.K neg x y H Q := by
  unfold inB at p
  split at p
  · obtain ⟨q, xs, hq, a1, r1⟩ := hy.list ex
    exact of_inLst ex hx hq (.inl (.inl a1)) r1 (fun ps h => hy.dp ex (by rw [toPy, h]; rfl)) p
  · obtain ⟨q, xs, hq, a1, r1⟩ := hy.fz ex
    exact of_inLst ex hx hq a1 r1 (fun ps h => hy.dp ex (by rw [toPy, h]; rfl)) p
  · unfold inTup at p
    split at p
    · rename_i b hb
      obtain ⟨q, xs, rfl, a1, r1, s1⟩ := hy.tup ex
      obtain ⟨z1, z2, z3⟩ := of_inFlat hx r1 hb
      refine .inr (.inl ⟨q, xs, rfl, .inr a1, z1, z2, ?_⟩)
      rw [z3]; exact p.here ex (.bl _)
    · exact p.elim
  · rename_i a b
    cases hx.str; cases hy.str
    unfold inStr at p
    split at p
    · rename_i n hn
      have ha : a = ⟨#[n]⟩ := Str.ext' (Array.toList_inj.mp (by rw [hn]))
      exact .inr (.inr (.inr ⟨n, b, by rw [ha], rfl, p.here ex (.bl _)⟩))
    · exact .inr (.inr (.inl ⟨_, _, rfl, rfl, p.here ex (.bl _)⟩))
  · exact p.elim
theorem os_in : OpS c (mV c) (rInX c.K false) inD := fun σ S H x y d e Q ex hx hy p => of_inB (neg := false) ex hx hy p
theorem os_nin : OpS c (mV c) (rInX c.K true) ninD := fun σ S H x y d e Q ex hx hy p => of_inB (neg := true) ex hx hy p
end
end Dx

end S_DxC
section S_DxD
set_option Elab.async false
set_option linter.all false
set_option maxRecDepth 100000
set_option maxHeartbeats 2000000
/-! Dx, part D: argument lists, displays, built-ins, subscripts, slices. -/
namespace Dx
open PySem L2
section
variable {X : Cx} {c : Cf} {G : List Ow} {f f1 f2 f3 : Rho → Res D} {a b e : Expr} {es : List Expr} {pos p : Pos} {fs : Rho → Res (List D)}
/-! ### chains, minus -/
def dChain (g g' : D → D → Res D) (f1 f2 f3 : Rho → Res D) : Rho → Res D := fun r => (f1 r).bind fun x => (f2 r).bind fun y => (g x y).bind fun z => (asB z).bind fun k => if k = true then (f3 r).bind fun w => g' y w else .ok (.bl false)
theorem chain_rd {r2 r2' : R2} {g g' : D → D → Res D} (hs : OpS c (mV c) r2 g) (hs' : OpS c (mV c) r2' g') : ∀ σ H Q, tV c G (dChain g g' f1 f2 f3) σ H Q → tChain r2 r2' (tR c G f1) (tR c G f2) (tR c G f3) σ H Q := fun σ H Q ⟨S0, H0, S, r, ok, p⟩ =>
  rd_seq ok p fun x v S1 H1 w1 o1 m1 p1 => rd_seq o1 p1 fun y u S2 H2 w2 o2 m2 p2 => hs σ S2 H2 v u x y _ o2.ex (RpB.mono m1 w2.s w2.h) m2 (p2.unbind.imp fun z S3 H3 w3 p3 bz hz => by
    obtain ⟨k, rfl, q3⟩ := of_asB (PostG.imp p3.unbind fun _ _ _ _ h => h)
    cases hz
    refine ⟨k, rfl, ?_⟩
    have o3 := o2.go w3
    have p4 := q3.go o3.ex
    cases k with
    | true => exact rd_seq o3 p4 fun w u' S4 H4 w4 o4 m4 p5 => hs' σ S4 H4 u u' y w Q o4.ex (RpB.mono m2 (w3.s.trans w4.s) (w3.h.trans w4.h)) m4 p5
    | false => exact p4.go o3.ex _ (.bl _))
theorem de_chain {op op' : CmpOp} {r2 r2' : R2} {g g' : D → D → Res D} {e3 : Expr} (ho : OpR X (compareOp op) r2) (hs : OpS c (mV c) r2 g) (ho' : OpR X (compareOp op') r2') (hs' : OpS c (mV c) r2' g') (ha : PE X a (tR c G f1)) (hb : PE X b (tR c G f2)) (hc : PE X e3 (tR c G f3))
    (hm : lastMarks [op, op'] [b, e3] = false := by with_unfolding_all rfl) : PE X (.Compare a [op, op'] [b, e3] pos) (tV c G (dChain g g' f1 f2 f3)) := pe_imp (pe_chain ho ho' ha hb hc hm) (chain_rd hs hs')
theorem dt_chain {op op' : CmpOp} {r2 r2' : R2} {g g' : D → D → Res D} {e3 : Expr} (ho : OpR X (compareOp op) r2) (hs : OpS c (mV c) r2 g) (ho' : OpR X (compareOp op') r2') (hs' : OpS c (mV c) r2' g') (ha : PE X a (tR c G f1)) (hb : PE X b (tR c G f2)) (hc : PE X e3 (tR c G f3))
    (hm : lastMarks [op, op'] [b, e3] = false := by with_unfolding_all rfl) : PT X (.Compare a [op, op'] [b, e3] pos) (tT c G (dT (dChain g g' f1 f2 f3))) := pt_imp (pt_chain ho ho' ha hb hc hm) fun σ H Q ⟨S0, H0, S, r, ok, p⟩ => by
  refine chain_rd (G := G) hs hs' σ H _ (rd_seq ok p fun d v S1 H1 w1 o1 m1 p1 => ?_)
  obtain ⟨b, rfl, p1⟩ := of_asB p1
  cases m1
  exact ⟨b, rfl, p1.go o1.ex _ rfl⟩
def negD : D → Res D
  | .int i => .ok (.int (-i))
  | _ => .bad
def dUn (g : D → Res D) (f : Rho → Res D) : Rho → Res D := fun r => (f r).bind g
theorem de_neg (ha : PE X a (tV c G f)) : PE X (.UnaryOp .USub a pos) (tV c G (dUn negD f)) := pe_imp (pe_un un_neg ha) fun σ H Q ⟨S0, H0, S, r, ok, p⟩ => rd_seq ok p fun d v S1 H1 w1 o1 m1 p1 => by
  cases d with
  | int i => cases m1; exact ⟨i, rfl, p1.go o1.ex _ (.int _)⟩
  | _ => exact p1.elim
theorem de_one {op : BoolOp} (h : PE X a (tV c G f)) : PE X (.BoolOp op [a] pos) (tV c G f) := pe_one h
theorem de_and {rest : List Expr} (ha : PE X a (tV c G f1)) (hb : PE X (.BoolOp .And (b :: rest) pos) (tV c G f2)) : PE X (.BoolOp .And (a :: b :: rest) pos) (tV c G (dAndV f1 f2)) := pe_imp (pe_and ha hb) fun σ H Q ⟨S0, H0, S, r, ok, p⟩ =>
  rd_seq ok p fun d v S1 H1 w1 o1 m1 p1 => by
    obtain ⟨k, rfl, q1⟩ := of_asB (p1.unbind)
    cases m1
    refine ⟨k, rfl, ?_⟩
    have p2 := q1.go o1.ex
    cases k with
    | true => exact ⟨S0, H0, S1, r, o1, p2⟩
    | false => exact p2.go o1.ex _ (.bl _)
theorem de_or {rest : List Expr} (ha : PE X a (tV c G f1)) (hb : PE X (.BoolOp .Or (b :: rest) pos) (tV c G f2)) : PE X (.BoolOp .Or (a :: b :: rest) pos) (tV c G (dOrV f1 f2)) := pe_imp (pe_or ha hb) fun σ H Q ⟨S0, H0, S, r, ok, p⟩ =>
  rd_seq ok p fun d v S1 H1 w1 o1 m1 p1 => by
    obtain ⟨k, rfl, q1⟩ := of_asB (p1.unbind)
    cases m1
    refine ⟨k, rfl, ?_⟩
    have p2 := q1.go o1.ex
    cases k with
    | true => exact p2.go o1.ex _ (.bl _)
    | false => exact ⟨S0, H0, S1, r, o1, p2⟩
theorem de_not (ha : PE X a (tV c G f)) : PE X (.UnaryOp .Not a pos) (tV c G (dNotV f)) := pe_imp (pe_not ha) fun σ H Q ⟨S0, H0, S, r, ok, p⟩ =>
  rd_seq ok p fun d v S1 H1 w1 o1 m1 p1 => by
    obtain ⟨k, rfl, q1⟩ := of_asB (p1.unbind)
    cases m1
    exact ⟨k, rfl, (q1.go o1.ex).go o1.ex _ (.bl _)⟩
/-! ### argument lists -/
def dNil : Rho → Res (List D) := fun _ => .ok []
def dCons (f : Rho → Res D) (g : Rho → Res (List D)) : Rho → Res (List D) := fun r => (f r).bind fun x => (g r).bind fun xs => .ok (x :: xs)
/-- with a mode for each: true, a thing that is only read -/
def RpM (c : Cf) (S H : Hp) : List Bool → List V → List D → Prop
  | [], [], [] => True
  | true :: ms, v :: vs, d :: ds => RpB c.K c.cm S H v d ∧ RpM c S H ms vs ds
  | false :: ms, v :: vs, d :: ds => Rp c.K c.cm S v d ∧ RpM c S H ms vs ds
  | _, _, _ => False
theorem RpM.mono {S H S' H' : Hp} (e : Ex S S') (e' : Ex H H') : ∀ {ms : List Bool} {vs : List V} {ds : List D}, RpM c S H ms vs ds → RpM c S' H' ms vs ds
  | [], [], [], _ => trivial
  | true :: ms, v :: vs, d :: ds, h => ⟨h.1.mono e e', RpM.mono e e' h.2⟩
  | false :: ms, v :: vs, d :: ds, h => ⟨h.1.mono e, RpM.mono e e' h.2⟩
  | [], _ :: _, _, h => h.elim
  | [], [], _ :: _, h => h.elim
  | true :: _, [], _, h => h.elim
  | true :: _, _ :: _, [], h => h.elim
  | false :: _, [], _, h => h.elim
  | false :: _, _ :: _, [], h => h.elim
def mM (c : Cf) (ms : List Bool) : Md (List V) (List D) := fun _ S' H' vs ds => RpM c S' H' ms vs ds
instance {ms : List Bool} : Anti (mM c ms) := ⟨fun _ h => h⟩
abbrev tM (c : Cf) (G : List Ow) (ms : List Bool) (f : Rho → Res (List D)) : TA := rd c G f (mM c ms)
theorem dm_nil : PA X [] (tM c G [] dNil) := pa_imp pa_nil fun σ H Q ⟨S0, H0, S, r, ok, p⟩ => p.go ok.ex _ trivial
theorem dm_bor {ms : List Bool} (ha : PE X e (tR c G f)) (hr : PA X es (tM c G ms fs)) (hs : starEach (e :: es) X.env = (false, eval e X.env) :: starEach es X.env := by rfl) : PA X (e :: es) (tM c G (true :: ms) (dCons f fs)) :=
  pa_imp (pa_cons ha hr hs) fun σ H Q ⟨S0, H0, S, r, ok, p⟩ => rd_seq ok p fun x v S1 H1 w1 o1 m1 p1 => rd_seq o1 p1 fun xs vs S2 H2 w2 o2 m2 p2 => p2.go o2.ex _ ⟨RpB.mono m1 w2.s w2.h, m2⟩
theorem dm_val {ms : List Bool} (ha : PE X e (tV c G f)) (hr : PA X es (tM c G ms fs)) (hs : starEach (e :: es) X.env = (false, eval e X.env) :: starEach es X.env := by rfl) : PA X (e :: es) (tM c G (false :: ms) (dCons f fs)) :=
  pa_imp (pa_cons ha hr hs) fun σ H Q ⟨S0, H0, S, r, ok, p⟩ => rd_seq ok p fun x v S1 H1 w1 o1 m1 p1 => rd_seq o1 p1 fun xs vs S2 H2 w2 o2 m2 p2 => p2.go o2.ex _ ⟨Rp.mono w2.s m1, m2⟩
theorem da_nil : PA X [] (tAs c G dNil) := pa_imp pa_nil fun σ H Q ⟨S0, H0, S, r, ok, p⟩ => p.go ok.ex _ .nil
theorem da_cons (ha : PE X e (tV c G f)) (hr : PA X es (tAs c G fs)) (hs : starEach (e :: es) X.env = (false, eval e X.env) :: starEach es X.env := by rfl) : PA X (e :: es) (tAs c G (dCons f fs)) :=
  pa_imp (pa_cons ha hr hs) fun σ H Q ⟨S0, H0, S, r, ok, p⟩ => rd_seq ok p fun x v S1 H1 w1 o1 m1 p1 => rd_seq o1 p1 fun xs vs S2 H2 w2 o2 m2 p2 => p2.go o2.ex _ (.cons (Rp.mono w2.s m1) m2)
/-! ### displays -/
noncomputable def mkTup (ds : List D) : Res D := guard (ds.length ≤ sizeLine) (.ok (.tup ds))
noncomputable def mkLst (ds : List D) : Res D := guard (ds.length ≤ sizeLine) (.ok (.lst ds))
noncomputable def dTup (g : Rho → Res (List D)) : Rho → Res D := fun r => (g r).bind mkTup
noncomputable def dLst (g : Rho → Res (List D)) : Rho → Res D := fun r => (g r).bind mkLst
theorem de_tup {k : Nat} (h : PA X es (tAs c G fs)) : PE X (.Tuple es k pos) (tV c G (dTup fs)) := pe_imp (pe_tup h) fun σ H Q ⟨S0, H0, S, r, ok, p⟩ => rd_seq ok p fun ds vs S1 H1 w1 o1 m1 p1 => by
  obtain ⟨hl, p1⟩ := p1.gd
  exact ⟨by rw [RpA.length m1]; exact hl, fun q hq => p1.laid o1.ex hq (.tup (.inl (.inl upd_same)) (RpA.mono (Ex.new (o1.ex.nn hq)) m1))⟩
theorem de_lst (h : PA X es (tAs c G fs)) : PE X (.List es pos) (tO c G (dLst fs)) := pe_imp (pe_lst h) fun σ H Q ⟨S0, H0, S, r, ok, p⟩ => rd_seq ok p fun ds vs S1 H1 w1 o1 m1 p1 => by
  obtain ⟨hl, p1⟩ := p1.gd
  exact ⟨by rw [RpA.length m1]; exact hl, fun q hq => (p1.anti w1.h).kept o1.ex hq (.lst m1)⟩
/-! ### built-in functions and types, by data -/
def CallS (c : Cf) (R : Md V D) (r : List V → Hp → VK → Prop) (ms : List Bool) (g : List D → Res D) : Prop := ∀ (σ : St) (S H : Hp) (vs : List V) (ds : List D) (Q : VK), Ex S H → RpM c S H ms vs ds →
  PostG c σ S H (g ds) (fun a S' H' => ∀ b, R H S' H' b a → Q b H') → r vs H Q
def dCall (g : List D → Res D) (fs : Rho → Res (List D)) : Rho → Res D := fun r => (fs r).bind g
theorem de_bltn {R : Md V D} [Anti R] {x : Str} {id : String} {ms : List Bool} {r : List V → Hp → VK → Prop} {g : List D → Res D} (hc : CallR X (.builtin id) r) (hs : CallS c R r ms g) (hg : Gl X x) (hm : X.mg x = none) (hv : bootBuiltins x = some (.builtin id)) (ha : PA X (e :: es) (tM c G ms fs))
    (hn : x ≠ "__name__" := by decide) (hdb : (x == ("__debug__" : Str)) = false := by decide) (he : starEach (e :: es) X.env = (false, eval e X.env) :: starEach es X.env := by rfl) (hpl : (backTo pos (starEach es X.env)).any (·.1) = false := by rfl) :
    PE X (.Call (.Name x p) (e :: es) [] pos) (rd c G (dCall g fs) R) := pe_imp (pe_callB hc hg hm hv ha hn hdb he hpl) fun σ H Q ⟨S0, H0, S, r, ok, p⟩ => rd_seq ok p fun ds vs S1 H1 w1 o1 m1 p1 => hs σ S1 H1 vs ds Q o1.ex m1 (p1.anti w1.h)
theorem de_type {R : Md V D} [Anti R] {x : Str} {T : String} {ms : List Bool} {r : List V → Hp → VK → Prop} {g : List D → Res D} (hc : CallR X (.type T) r) (hs : CallS c R r ms g) (hg : Gl X x) (hm : X.mg x = none) (hv : bootBuiltins x = some (.type T)) (ha : PA X (e :: es) (tM c G ms fs))
    (hn : x ≠ "__name__" := by decide) (hdb : (x == ("__debug__" : Str)) = false := by decide) (he : starEach (e :: es) X.env = (false, eval e X.env) :: starEach es X.env := by rfl) (hpl : (backTo pos (starEach es X.env)).any (·.1) = false := by rfl) :
    PE X (.Call (.Name x p) (e :: es) [] pos) (rd c G (dCall g fs) R) := pe_imp (pe_callTy hc hg hm hv ha hn hdb he hpl) fun σ H Q ⟨S0, H0, S, r, ok, p⟩ => rd_seq ok p fun ds vs S1 H1 w1 o1 m1 p1 => hs σ S1 H1 vs ds Q o1.ex m1 (p1.anti w1.h)
theorem RpM.one {S H : Hp} {vs : List V} {ds : List D} (h : RpM c S H [true] vs ds) : ∃ v d, vs = [v] ∧ ds = [d] ∧ RpB c.K c.cm S H v d := by
  match vs, ds, h with
  | [v], [d], h => exact ⟨v, d, rfl, rfl, h.1⟩
  | _ :: _ :: _, [_], h => exact h.2.elim
  | [_], _ :: _ :: _, h => exact h.2.elim
  | _ :: _ :: _, _ :: _ :: _, h => exact h.2.elim
  | [], _, h => exact h.elim
  | _ :: _, [], h => exact h.elim
theorem RpM.two {S H : Hp} {vs : List V} {ds : List D} (h : RpM c S H [true, true] vs ds) : ∃ v w d e, vs = [v, w] ∧ ds = [d, e] ∧ RpB c.K c.cm S H v d ∧ RpB c.K c.cm S H w e := by
  match vs, ds, h with
  | v :: vs, d :: ds, h =>
    obtain ⟨w, e, rfl, rfl, h2⟩ := RpM.one h.2
    exact ⟨v, w, d, e, rfl, rfl, h.1, h2⟩
  | [], _, h => exact h.elim
  | _ :: _, [], h => exact h.elim
/-- len -/
noncomputable def lenD : D → Res D
  | .str z => guard (z.length ≤ sizeLine) (.ok (.int z.length))
  | .lst ds => .ok (.int ds.length)
  | .fz ds => .ok (.int ds.length)
  | .tup ds => .ok (.int ds.length)
  | _ => .bad
def g1 (g : D → Res D) : List D → Res D
  | [d] => g d
  | _ => .bad
def g2 (g : D → D → Res D) : List D → Res D
  | [d, e] => g d e
  | _ => .bad
theorem cs_len : CallS c (mV c) (fun xs H Q => ∃ x n, xs = [x] ∧ LenV c.K x H n ∧ Q (.int n) H) [true] (g1 lenD) := by
  intro σ S H vs ds Q ex m p
  obtain ⟨v, d, rfl, rfl, h⟩ := m.one
  cases d with
  | str z =>
    obtain ⟨hl, p⟩ := p.gd
    cases h.str
    exact ⟨_, _, rfl, ⟨hl, rfl⟩, p.here ex (.int _)⟩
  | lst ds =>
    obtain ⟨q, xs, rfl, a1, r1⟩ := h.list ex
    exact ⟨_, _, rfl, .inl ⟨xs, .inl (.inl a1), r1.length.symm⟩, p.here ex (.int _)⟩
  | fz ds =>
    obtain ⟨q, xs, rfl, a1, r1⟩ := h.fz ex
    exact ⟨_, _, rfl, .inl ⟨xs, a1, r1.length.symm⟩, p.here ex (.int _)⟩
  | tup ds =>
    obtain ⟨q, xs, rfl, a1, r1, s1⟩ := h.tup ex
    exact ⟨_, _, rfl, .inr ⟨xs, a1, r1.length.symm⟩, p.here ex (.int _)⟩
  | _ => exact p.elim
/-- int(..) -/
noncomputable def intD : D → Res D
  | .int i => .ok (.int i)
  | .bl k => .ok (.int (if k then 1 else 0))
  | .str a => match PySem.intText? a with
    | some n => guard (a.length ≤ 640) (.ok (.int n))
    | none => .bad
  | _ => .bad
def rIntX : List V → Hp → VK → Prop := fun xs H Q => ((∃ i, xs = [.int i] ∧ Q (.int i) H) ∨ ∃ k, xs = [.bl k] ∧ Q (.int (if k then 1 else 0)) H) ∨ ∃ a n, xs = [.str a] ∧ PySem.intText? a = some n ∧ a.length ≤ 640 ∧ Q (.int n) H
theorem cr_int : CallR X (.type "int") rIntX := call_int1.or call_int_str
theorem cs_int : CallS c (mV c) rIntX [true] (g1 intD) := by
  intro σ S H vs ds Q ex m p
  obtain ⟨v, d, rfl, rfl, h⟩ := m.one
  cases d with
  | int i => cases h.int; exact .inl (.inl ⟨_, rfl, p.here ex (.int _)⟩)
  | bl k => cases h.bl; exact .inl (.inr ⟨_, rfl, p.here ex (.int _)⟩)
  | str a =>
    cases h.str
    unfold g1 intD at p
    dsimp only at p
    split at p
    · rename_i n hn
      obtain ⟨hl, p⟩ := p.gd
      exact .inr ⟨_, n, rfl, hn, hl, p.here ex (.int _)⟩
    · exact p.elim
  | _ => exact p.elim
def absD : D → Res D
  | .int i => .ok (.int (if i < 0 then -i else i))
  | _ => .bad
theorem cs_abs : CallS c (mV c) (fun xs H Q => ∃ i, xs = [.int i] ∧ Q (.int (if i < 0 then -i else i)) H) [true] (g1 absD) := by
  intro σ S H vs ds Q ex m p
  obtain ⟨v, d, rfl, rfl, h⟩ := m.one
  cases d with
  | int i => cases h.int; exact ⟨_, rfl, p.here ex (.int _)⟩
  | _ => exact p.elim
theorem cs_ints2 {g : Int → Int → Int} : CallS c (mV c) (fun xs H Q => ∃ i j, xs = [.int i, .int j] ∧ Q (.int (g i j)) H) [true, true] (g2 (intsD g)) := by
  intro σ S H vs ds Q ex m p
  obtain ⟨v, w, d, e, rfl, rfl, h, h'⟩ := m.two
  unfold g2 intsD at p
  dsimp only at p
  split at p
  · cases h.int; cases h'.int; exact ⟨_, _, rfl, p.here ex (.int _)⟩
  · exact p.elim
abbrev max2 (i j : Int) : Int := if j > i then j else i
abbrev min2 (i j : Int) : Int := if j < i then j else i
/-- list(..), tuple(..) -/
def itemsL : D → Res (List D)
  | .lst ds => .ok ds
  | .fz ds => .ok ds
  | _ => .bad
def itemsT : D → Res (List D)
  | .tup ds => .ok ds
  | _ => .bad
def items : D → Res (List D)
  | .lst ds => .ok ds
  | .fz ds => .ok ds
  | .tup ds => .ok ds
  | _ => .bad
def listD (d : D) : Res D := (items d).bind fun ds => .ok (.lst ds)
theorem cs_list : CallS c (mO c) (fun xs H Q => ∃ p ys, xs = [.ref p] ∧ (SqL c.K H p ys ∨ SqT c.K H p ys) ∧ ∀ l, H l = none → Q (.ref l) (upd H l (.lst ys))) [true] (g1 listD) := by
  intro σ S H vs ds Q ex m p
  obtain ⟨v, d, rfl, rfl, h⟩ := m.one
  cases d with
  | lst ds =>
    obtain ⟨q, xs, rfl, a1, r1⟩ := h.list ex
    exact ⟨q, xs, rfl, .inl (.inl (.inl a1)), fun l hl => p.kept ex hl (.lst r1)⟩
  | fz ds =>
    obtain ⟨q, xs, rfl, a1, r1⟩ := h.fz ex
    exact ⟨q, xs, rfl, .inl a1, fun l hl => p.kept ex hl (.lst r1)⟩
  | tup ds =>
    obtain ⟨q, xs, rfl, a1, r1, s1⟩ := h.tup ex
    exact ⟨q, xs, rfl, .inr a1, fun l hl => p.kept ex hl (.lst r1)⟩
  | _ => exact p.elim
def tupleD (d : D) : Res D := (items d).bind fun ds => .ok (.tup ds)
theorem cs_tuple : CallS c (mV c) (fun xs H Q => ∃ p ys, xs = [.ref p] ∧ ((SqL c.K H p ys ∧ ∀ l, H l = none → Q (.ref l) (upd H l (.tup ys))) ∨ (SqT c.K H p ys ∧ Q (.ref p) H))) [true] (g1 tupleD) := by
  intro σ S H vs ds Q ex m p
  obtain ⟨v, d, rfl, rfl, h⟩ := m.one
  cases d with
  | lst ds =>
    obtain ⟨q, xs, rfl, a1, r1⟩ := h.list ex
    exact ⟨q, xs, rfl, .inl ⟨.inl (.inl a1), fun l hl => p.laid ex hl (.tup (.inl (.inl upd_same)) (r1.mono (Ex.new (ex.nn hl))))⟩⟩
  | fz ds =>
    obtain ⟨q, xs, rfl, a1, r1⟩ := h.fz ex
    exact ⟨q, xs, rfl, .inl ⟨a1, fun l hl => p.laid ex hl (.tup (.inl (.inl upd_same)) (r1.mono (Ex.new (ex.nn hl))))⟩⟩
  | tup ds =>
    obtain ⟨q, xs, rfl, a1, r1, s1⟩ := h.tup ex
    exact ⟨q, xs, rfl, .inr ⟨a1, p.here ex (.tup s1 r1)⟩⟩
  | _ => exact p.elim
/-- str(n), str(text) is not here: see part T -/
noncomputable def strD : D → Res D
  | .int i => guard (i.natAbs.log2 < 1920) (.ok (.str (toString i)))
  | _ => .bad
theorem cs_str : CallS c (mV c) (fun xs H Q => ∃ i, xs = [.int i] ∧ i.natAbs.log2 < 1920 ∧ Q (.str (toString i)) H) [true] (g1 strD) := by
  intro σ S H vs ds Q ex m p
  obtain ⟨v, d, rfl, rfl, h⟩ := m.one
  cases d with
  | int i =>
    obtain ⟨hl, p⟩ := p.gd
    cases h.int; exact ⟨_, rfl, hl, p.here ex (.str _)⟩
  | _ => exact p.elim
/-! ### isinstance(x, T), T built in -/
def tyN : D → Option String
  | .non => some "NoneType"
  | .bl _ => some "bool"
  | .int _ => some "int"
  | .str _ => some "str"
  | .lst _ => some "list"
  | .fz _ => some "list"
  | .tup _ => some "tuple"
  | .dk _ _ => some "dict"
  | .dt _ _ => some "dict"
  | .obj _ _ _ => none
def isiD (T : String) (d : D) : Res D := match tyN d with
  | some n => match kitB n T with
    | some b => .ok (.bl b)
    | none => .bad
  | none => .bad
theorem RpB.ty {K : PySem.W.Frag} {cm : CM} {S H : Hp} {v : V} {d : D} {n : String} (h : RpB K cm S H v d) (ex : Ex S H) (q : tyN d = some n) : TyX K H v (.type n) := by
  cases d with
  | non => cases h.non; cases q; exact .base .non
  | bl b => cases h.bl; cases q; exact .base (.bl b)
  | int i => cases h.int; cases q; exact .base (.int i)
  | str s => cases h.str; cases q; exact .base (.str s)
  | lst ds => obtain ⟨p, xs, rfl, a, r⟩ := h.list ex; cases q; exact .base (.lst a)
  | fz ds =>
    obtain ⟨p, xs, rfl, a, r⟩ := h.fz ex; cases q
    rcases a with (a | ⟨o, a⟩) | ⟨o, its, m, a1, a2, _⟩
    · exact .base (.lst a)
    · exact .base (.frz a)
    · exact .kList a1 a2
  | tup ds =>
    obtain ⟨p, xs, rfl, a, r, s⟩ := h.tup ex; cases q
    rcases a with (a | ⟨o, a⟩) | ⟨o, its, m, a1, a2, _⟩
    · exact .base (.tup a)
    · exact .fTuple a
    · exact .kTuple a1 a2
  | dk ks vs => obtain ⟨p, xs, rfl, a, r⟩ := h.dk ex; cases q; exact .base (.dK a)
  | dt ks vs => obtain ⟨p, xs, rfl, a, r⟩ := h.dt ex; cases q; exact .base (.dT a)
  | obj n ns vs => cases q
/-- the class's name is a built-in's that stands as it was -/
theorem de_isi {x : Str} {pT : Pos} (T : String) (hm : X.mg "isinstance" = none) (hg : Gl X "isinstance") (gT : Gl X x) (mT : X.mg x = none) (bT : bootBuiltins x = some (.type T)) (ha : PE X e (tR c G f)) (hK : c.K = X.K := by rfl)
    (hn : x ≠ "__name__" := by decide) (hd : (x == ("__debug__" : Str)) = false := by decide)
    (hs1 : starEach [e, .Name x pT] X.env = (false, eval e X.env) :: starEach [.Name x pT] X.env := by rfl) (hs2 : starEach [.Name x pT] X.env = (false, eval (.Name x pT) X.env) :: starEach [] X.env := by rfl) (hpl : (backTo pos (starEach [.Name x pT] X.env)).any (·.1) = false := by rfl) :
    PE X (.Call (.Name "isinstance" p) [e, .Name x pT] [] pos) (tV c G (dUn (isiD T) f)) := by
  have hT : PE X (.Name x pT) (tC (.ty T)) := pe_bltn gT mT bT rfl hn hd
  refine pe_imp (pe_callB call_isi hg hm (by decide +kernel) (pa_cons ha (pa_cons hT pa_nil hs2) hs1) (he := hs1) (hpl := hpl)) fun σ H Q ⟨S0, H0, S, r, ok, p⟩ => rd_seq ok p fun d v S1 H1 w1 o1 m1 p1 => ?_
  unfold isiD at p1
  split at p1
  · rename_i n hn
    split at p1
    · rename_i b hb
      exact ⟨v, .ty T, .type n, .type T, b, rfl, .ty T, by rw [← hK]; exact RpB.ty m1 o1.ex hn, kit_ty hb, p1.go o1.ex _ (.bl _)⟩
    · exact p1.elim
  · exact p1.elim
/-! ### subscripts -/
noncomputable def ixD : D → D → Res D
  | .lst ds, .int i => match atI ds i with
    | some d => .ok d
    | none => .bad
  | .fz ds, .int i => match atI ds i with
    | some d => .ok d
    | none => .bad
  | .tup ds, .int i => match atI ds i with
    | some d => .ok d
    | none => .bad
  | .str z, .int i => guard (z.length ≤ sizeLine) (match atI z.cps.toList i with
    | some n => .ok (.str ⟨#[n]⟩)
    | none => .bad)
  | _, _ => .bad
theorem RpA.atI {K : PySem.W.Frag} {cm : CM} {S : Hp} {xs : List V} {ds : List D} {i : Int} {d : D} (h : RpA K cm S xs ds) (q : atI ds i = some d) : ∃ v, L2.atI xs i = some v ∧ Rp K cm S v d := by
  unfold L2.atI at q ⊢
  rw [h.length]
  cases hj : ixN ds.length i with
  | none => rw [hj] at q; cases q
  | some j => rw [hj] at q; exact h.get q
theorem os_ix : OpS c (mV c) (rIx c.K) ixD := by
  intro σ S H x y d e Q ex hx hy p
  unfold ixD at p
  split at p
  · split at p
    · rename_i hd
      obtain ⟨q, xs, rfl, a1, r1⟩ := hx.list ex
      cases hy.int
      obtain ⟨v, h1, h2⟩ := r1.atI hd
      exact .inl ⟨q, xs, _, v, rfl, rfl, .inl (.inl a1), h1, p.here ex h2⟩
    · exact p.elim
  · split at p
    · rename_i hd
      obtain ⟨q, xs, rfl, a1, r1⟩ := hx.fz ex
      cases hy.int
      obtain ⟨v, h1, h2⟩ := r1.atI hd
      exact .inl ⟨q, xs, _, v, rfl, rfl, a1, h1, p.here ex h2⟩
    · exact p.elim
  · split at p
    · rename_i hd
      obtain ⟨q, xs, rfl, a1, r1, s1⟩ := hx.tup ex
      cases hy.int
      obtain ⟨v, h1, h2⟩ := r1.atI hd
      exact .inr (.inl ⟨q, xs, _, v, rfl, rfl, a1, h1, p.here ex h2⟩)
    · exact p.elim
  · obtain ⟨hl, p⟩ := p.gd
    cases hx.str; cases hy.int
    split at p
    · rename_i hd
      exact .inr (.inr ⟨_, _, _, rfl, rfl, hl, hd, p.here ex (.str _)⟩)
    · exact p.elim
  · exact p.elim
theorem de_ix (ha : PE X a (tR c G f1)) (hb : PE X b (tR c G f2)) (hs : PlainIx b) (hK : c.K = X.K := by rfl) : PE X (.Subscript a b pos) (tV c G (dOp ixD f1 f2)) :=
  pe_imp (pe_ix ix_seq ha hb hs) (by rw [← hK]; exact op_rd os_ix)
/-! ### slices -/
def cutL {α : Type} (xs : List α) (lo hi : Option Int) : List α := (xs.drop (HT.sIx xs.length 0 lo)).take (HT.sIx xs.length xs.length hi - HT.sIx xs.length 0 lo)
def asI : D → Res Int
  | .int i => .ok i
  | _ => .bad
def dNoP : Rho → Res (Option Int) := fun _ => .ok none
def dPart (f : Rho → Res D) : Rho → Res (Option Int) := fun r => (f r).bind fun d => (asI d).bind fun i => .ok (some i)
theorem po_imp {oe : Option Expr} {t t' : TO} (h : PO X oe t) (k : ∀ σ H Q, t' σ H Q → t σ H Q) : PO X oe t' := ⟨fun pins s σ H Q I q => h.run pins s σ H Q I (k σ H Q q)⟩
abbrev tP (c : Cf) (G : List Ow) (f : Rho → Res (Option Int)) : TO := rd c G f (mE (Option Int))
theorem dp_none : PO X none (tP c G dNoP) := po_imp po_none fun σ H Q ⟨S0, H0, S, r, ok, p⟩ => p.go ok.ex _ rfl
theorem of_asI {σ : St} {S H : Hp} {d : D} {k : Int → Hp → Hp → Prop} (p : PostG c σ S H (asI d) k) : ∃ i, d = .int i ∧ PostG c σ S H (.ok i) k := by
  cases d with
  | int i => exact ⟨i, rfl, p⟩
  | _ => exact p.elim
theorem dp_some (h : PE X e (tV c G f)) : PO X (some e) (tP c G (dPart f)) := po_imp (po_some h) fun σ H Q ⟨S0, H0, S, r, ok, p⟩ => rd_seq ok p fun d v S1 H1 w1 o1 m1 p1 => by
  obtain ⟨i, rfl, q1⟩ := of_asI p1.unbind
  cases m1
  exact ⟨i, rfl, (q1.go o1.ex).go o1.ex _ rfl⟩
variable {fl fh : Rho → Res (Option Int)} {lo hi : Option Expr} {p2 : Pos}
noncomputable def slD (d : D) (lo hi : Option Int) : Res D := match d with
  | .lst ds => .ok (.lst (cutL ds lo hi))
  | .fz ds => .ok (.lst (cutL ds lo hi))
  | .tup ds => .ok (.tup (cutL ds lo hi))
  | .str z => guard (z.length ≤ sizeLine) (.ok (.str (cutS z lo hi)))
  | _ => .bad
def dSl (g : D → Option Int → Option Int → Res D) (f : Rho → Res D) (fl fh : Rho → Res (Option Int)) : Rho → Res D := fun r => (f r).bind fun d => (fl r).bind fun l => (fh r).bind fun h => g d l h
def rSlX (K : PySem.W.Frag) : V → Option Int → Option Int → Hp → VK → Prop := fun x lo hi H Q => rSlL K x lo hi H Q ∨ rSlA K x lo hi H Q ∨ rSlS x lo hi H Q
theorem sl_x : SlR X (rSlX X.K) := sl_list.or (sl_tupA.or sl_str)
theorem RpA.cut {K : PySem.W.Frag} {cm : CM} {S : Hp} {xs : List V} {ds : List D} {lo hi : Option Int} (h : RpA K cm S xs ds) : RpA K cm S (cutV xs lo hi) (cutL ds lo hi) := by
  unfold cutV cutL
  rw [h.length]
  exact (h.drop _).take _
theorem cutV_whole {xs : List V} {lo hi : Option Int} (h : HT.sIx xs.length 0 lo = 0 ∧ HT.sIx xs.length xs.length hi = xs.length) : cutV xs lo hi = xs := by
  unfold cutV
  rw [h.1, h.2]
  simp
theorem de_sl (ha : PE X a (tR c G f)) (hl : PO X lo (tP c G fl)) (hh : PO X hi (tP c G fh)) (hK : c.K = X.K := by rfl) : PE X (.Subscript a (.Slice lo hi none p2) pos) (tV c G (dSl slD f fl fh)) :=
  pe_imp (pe_slice sl_x ha hl hh) fun σ H Q ⟨S0, H0, S, r, ok, p⟩ => rd_seq ok p fun d v S1 H1 w1 o1 m1 p1 => rd_seq o1 p1 fun l l' S2 H2 w2 o2 m2 p2 => rd_seq o2 p2 fun h h' S3 H3 w3 o3 m3 p3 => by
    have m1 := RpB.mono m1 (w2.s.trans w3.s) (w2.h.trans w3.h)
    rw [show l' = l from m2, show h' = h from m3, ← hK]
    cases d with
    | lst ds =>
      obtain ⟨q, xs, rfl, a1, r1⟩ := m1.list o3.ex
      exact .inl ⟨q, xs, rfl, .inl (.inl a1), fun q hq => PostG.laid p3 o3.ex hq (.lst upd_same (r1.cut.mono (Ex.new (o3.ex.nn hq))))⟩
    | fz ds =>
      obtain ⟨q, xs, rfl, a1, r1⟩ := m1.fz o3.ex
      exact .inl ⟨q, xs, rfl, a1, fun q hq => PostG.laid p3 o3.ex hq (.lst upd_same (r1.cut.mono (Ex.new (o3.ex.nn hq))))⟩
    | tup ds =>
      obtain ⟨q, xs, rfl, a1, r1, s1⟩ := m1.tup o3.ex
      refine .inr (.inl ⟨q, xs, rfl, a1, fun hw => p3.go o3.ex _ (.tup s1 ?_), fun _ q hq => PostG.laid p3 o3.ex hq (.tup (.inl (.inl upd_same)) (r1.cut.mono (Ex.new (o3.ex.nn hq))))⟩)
      have := r1.cut (lo := l) (hi := h)
      rw [cutV_whole hw] at this
      exact this
    | str z =>
      obtain ⟨hl, p3⟩ := p3.gd
      cases m1.str
      exact .inr (.inr ⟨z, rfl, hl, p3.go o3.ex _ (.str _)⟩)
    | _ => exact p3.elim
/-- a slice of a list, the new list one's own -/
def slL (d : D) (lo hi : Option Int) : Res D := match d with
  | .lst ds => .ok (.lst (cutL ds lo hi))
  | .fz ds => .ok (.lst (cutL ds lo hi))
  | _ => .bad
theorem de_slO (ha : PE X a (tR c G f)) (hl : PO X lo (tP c G fl)) (hh : PO X hi (tP c G fh)) (hK : c.K = X.K := by rfl) : PE X (.Subscript a (.Slice lo hi none p2) pos) (tO c G (dSl slL f fl fh)) :=
  pe_imp (pe_slice sl_list ha hl hh) fun σ H Q ⟨S0, H0, S, r, ok, p⟩ => rd_seq ok p fun d v S1 H1 w1 o1 m1 p1 => rd_seq o1 p1 fun l l' S2 H2 w2 o2 m2 p2 => rd_seq o2 p2 fun h h' S3 H3 w3 o3 m3 p3 => by
    have m1 := RpB.mono m1 (w2.s.trans w3.s) (w2.h.trans w3.h)
    rw [show l' = l from m2, show h' = h from m3, ← hK]
    have p3 := PostG.anti (w1.h.trans (w2.h.trans w3.h)) p3
    cases d with
    | lst ds =>
      obtain ⟨q, xs, rfl, a1, r1⟩ := m1.list o3.ex
      exact ⟨q, xs, rfl, .inl (.inl a1), fun q hq => PostG.kept p3 o3.ex hq (.lst r1.cut)⟩
    | fz ds =>
      obtain ⟨q, xs, rfl, a1, r1⟩ := m1.fz o3.ex
      exact ⟨q, xs, rfl, a1, fun q hq => PostG.kept p3 o3.ex hq (.lst r1.cut)⟩
    | _ => exact p3.elim
end
end Dx

end S_DxD
section S_DxE
set_option Elab.async false
set_option linter.all false
set_option maxRecDepth 100000
set_option maxHeartbeats 2000000
/-! Dx, part E: statements, loops, comprehensions. -/
namespace Dx
open PySem L2

/-- what is wanted behind a statement -/
def PostS (c : Cf) (S0 H0 : Hp) (L G' : List Ow) (o : SR) (E : Ends) : Prop :=
  match o with
  | .nx r => ∀ σ' S' H', EnvOk c S0 H0 G' S' H' σ' r → E.nx σ' H'
  | .rt d => if c.rm then ∀ p ho S' H', Fwd S0 H0 S' H' → H0 p = none → S' p = none → H' p = some ho → RpO c.K c.cm S' ho d → E.rt (.ref p) H'
      else ∀ v S' H', Fwd S0 H0 S' H' → Rp c.K c.cm S' v d → E.rt v H'
  | .bk r => ∀ σ' S' H', EnvOk c S0 H0 L S' H' σ' r → E.bk σ' H'
  | .ct r => ∀ σ' S' H', EnvOk c S0 H0 L S' H' σ' r → E.ct σ' H'
  | .er r n ns vs => ∀ C dd σ' S' H' fs, c.cm n = some C → Fwd S0 H0 S' H' → (∀ g, c.ge = some g → EnvOk c S0 H0 g S' H' σ' r) → S' dd = some (.xd fs) → ns = fs.map (·.1) → RpA c.K c.cm S' (fs.map (·.2)) vs → c.W (.ref C) (some dd) σ' H'
  | .bad => False
def sD (c : Cf) (L G G' : List Ow) (F : Rho → SR) : TS := fun E σ H => ∃ S0 H0 S r, EnvOk c S0 H0 G S H σ r ∧ PostS c S0 H0 L G' (F r) E
def liftS {α : Type} (r : Rho) (x : Res α) (k : α → SR) : SR := match x with
  | .ok a => k a
  | .err n ns vs => .er r n ns vs
  | .bad => .bad
/-- where a try's clauses ask for the slots, the kinds are the ones told -/
def Gok (c : Cf) (G : List Ow) : Prop := ∀ g, c.ge = some g → g = G
section
variable {X : Cx} {c : Cf} {L G G' G'' : List Ow} {σ : St} {S0 H0 S H : Hp} {r : Rho} {α β : Type} {E : Ends}
theorem st_seq {f : Rho → Res α} {R : Md β α} (hg : Gok c G) (e : EnvOk c S0 H0 G S H σ r) {k : α → SR} (p : PostS c S0 H0 L G' (liftS r (f r) k) E) {Q : β → Hp → Prop}
    (h : ∀ a b S' H', Fwd S H S' H' → EnvOk c S0 H0 G S' H' σ r → R H S' H' b a → PostS c S0 H0 L G' (k a) E → Q b H') : rd c G f R σ H Q := by
  refine ⟨S0, H0, S, r, e, ?_⟩
  cases hf : f r with
  | ok a => rw [hf] at p; exact fun S' H' fw b hb => h a b S' H' fw (e.go fw) hb p
  | err n ns vs =>
    rw [hf] at p
    exact fun C dd S' H' fs h1 fw h2 h3 h4 => p C dd σ S' H' fs h1 (e.fwd.trans fw) (fun g q => by rw [hg g q]; exact e.go fw) h2 h3 h4
  | bad => rw [hf] at p; exact p.elim
/-- the stable part as the new base -/
theorem EnvOk.rebase (e : EnvOk c S0 H0 G S H σ r) : EnvOk c S H0 G S H σ r := ⟨⟨Ex.refl, e.fwd.h, e.fwd.sub, fun a o h n => by rw [n] at h; cases h⟩, e.len, e.slot, e.sep⟩
theorem Fwd.unbase {S' H' : Hp} (f : Fwd S0 H0 S H) (g : Fwd S H0 S' H') : Fwd S0 H0 S' H' := ⟨f.s.trans g.s, g.h, g.sub, fun a o h n => by
  cases q : S a with
  | some u => exact f.new a u q n
  | none => exact g.new a o h q⟩
theorem EnvOk.unbase {S' H' : Hp} {σ' : St} {r' : Rho} (f : Fwd S0 H0 S H) (e : EnvOk c S H0 G' S' H' σ' r') : EnvOk c S0 H0 G' S' H' σ' r' := ⟨f.unbase e.fwd, e.len, e.slot, e.sep⟩
theorem PostS.rebase {o : SR} (f : Fwd S0 H0 S H) (p : PostS c S0 H0 L G' o E) : PostS c S H0 L G' o E := by
  cases o with
  | nx r => exact fun σ' S' H' e => p σ' S' H' (e.unbase f)
  | rt d =>
    unfold PostS at p ⊢
    dsimp only at p ⊢
    split
    · rename_i h
      rw [if_pos h] at p
      exact fun q ho S' H' w => p q ho S' H' (f.unbase w)
    · rename_i h
      rw [if_neg h] at p
      exact fun v S' H' w => p v S' H' (f.unbase w)
  | bk r => exact fun σ' S' H' e => p σ' S' H' (e.unbase f)
  | ct r => exact fun σ' S' H' e => p σ' S' H' (e.unbase f)
  | er r n ns vs => exact fun C dd σ' S' H' fs h1 w h2 => p C dd σ' S' H' fs h1 (f.unbase w) fun g q => (h2 g q).unbase f
  | bad => exact p
/-! ### blocks -/
def seqF (F K : Rho → SR) : Rho → SR := fun r => match F r with
  | .nx r' => K r'
  | o => o
theorem ds_nil : PSs X [] (sD c L G G .nx) := pss_imp pss_nil fun E σ H ⟨S0, H0, S, r, ok, p⟩ => p σ S H ok
theorem ds_cons {st : Stmt} {rest : List Stmt} {F K : Rho → SR} (h1 : PS X st (sD c L G G' F)) (h2 : PSs X rest (sD c L G' G'' K)) : PSs X (st :: rest) (sD c L G G'' (seqF F K)) := pss_imp (pss_cons h1 h2) fun E σ H ⟨S0, H0, S, r, ok, p⟩ => by
  refine ⟨S0, H0, S, r, ok, ?_⟩
  unfold seqF at p
  cases hF : F r with
  | nx r' => rw [hF] at p; exact fun σ' S' H' e => ⟨S0, H0, S', r', e, p⟩
  | rt d => rw [hF] at p; exact p
  | bk r' => rw [hF] at p; exact p
  | ct r' => rw [hF] at p; exact p
  | er r' n ns vs => rw [hF] at p; exact p
  | bad => rw [hF] at p; exact p.elim
theorem ds_one {st : Stmt} {F : Rho → SR} (h1 : PS X st (sD c L G G' F)) : PSs X [st] (sD c L G G' F) := pss_one h1
/-- an own object becomes a value, ahead of a block; behind one -/
theorem ds_pub {sts : List Stmt} {F : Rho → SR} (i : Nat) (h : PSs X sts (sD c L (G.set i .v) G' F)) (hk : kd G i = .o ∨ kd G i = .v) : PSs X sts (sD c L G G' F) := pss_imp h fun E σ H ⟨S0, H0, S, r, ok, p⟩ =>
  let ⟨S', ok'⟩ := ok.pub i hk
  ⟨S0, H0, S', r, ok', p⟩
theorem ds_pubE {sts : List Stmt} {F : Rho → SR} (i : Nat) (h : PSs X sts (sD c L G G' F)) (hk : kd G' i = .o ∨ kd G' i = .v) : PSs X sts (sD c L G (G'.set i .v) F) := pss_imp h fun E σ H ⟨S0, H0, S, r, ok, p⟩ => by
  refine ⟨S0, H0, S, r, ok, ?_⟩
  cases hF : F r with
  | nx r' =>
    rw [hF] at p
    exact fun σ' S' H' e => let ⟨S'', e'⟩ := e.pub i hk; p σ' S'' H' e'
  | rt d => rw [hF] at p; exact p
  | bk r' => rw [hF] at p; exact p
  | ct r' => rw [hF] at p; exact p
  | er r' n ns vs => rw [hF] at p; exact p
  | bad => rw [hF] at p; exact p.elim
theorem ds_pub1 {st : Stmt} {F : Rho → SR} (i : Nat) (h : PS X st (sD c L (G.set i .v) G' F)) (hk : kd G i = .o ∨ kd G i = .v) : PS X st (sD c L G G' F) := ps_imp h fun E σ H ⟨S0, H0, S, r, ok, p⟩ =>
  let ⟨S', ok'⟩ := ok.pub i hk
  ⟨S0, H0, S', r, ok', p⟩
/-! ### small statements -/
variable {e : Expr} {pos : Pos} {f : Rho → Res D}
def setF (i : Nat) (f : Rho → Res D) : Rho → SR := fun r => liftS r (f r) fun d => .nx (r.set i (some d))
/-- x = e -/
theorem ds_set (i : Nat) {x : Str} {pos' : Pos} (hg : Gok c G) (hN : X.N.Nodup) (hi : X.N[i]? = some x) (hx : Loc X.env.scope x) (he : PE X e (tV c G f)) (hs : swapsWith e (some (.Name x pos')) pos.line X.env = pure false := by rfl)
    (hf : X.fn x = true ∨ X.env.scope.names.lookup x = some .local := by first | exact .inl rfl | exact .inr rfl | assumption) : PS X (.Assign [.Name x pos'] e pos) (sD c L G (G.set i .v) (setF i f)) :=
  ps_imp (ps_set hN hi hx he hs hf) fun E σ H ⟨S0, H0, S, r, ok, p⟩ => st_seq hg ok p fun d v S1 H1 w1 o1 m1 p1 => p1 _ S1 H1 (o1.setV i m1)
/-- x = e, a new object of one's own -/
theorem ds_setO (i : Nat) {x : Str} {pos' : Pos} (hg : Gok c G) (hG : i < G.length) (hN : X.N.Nodup) (hi : X.N[i]? = some x) (hx : Loc X.env.scope x) (he : PE X e (tO c G f)) (hs : swapsWith e (some (.Name x pos')) pos.line X.env = pure false := by rfl)
    (hf : X.fn x = true ∨ X.env.scope.names.lookup x = some .local := by first | exact .inl rfl | exact .inr rfl | assumption) : PS X (.Assign [.Name x pos'] e pos) (sD c L G (G.set i .o) (setF i f)) :=
  ps_imp (ps_set hN hi hx he hs hf) fun E σ H ⟨S0, H0, S, r, ok, p⟩ => st_seq hg ok p fun d v S1 H1 w1 o1 m1 p1 => by
    obtain ⟨q, ho, rfl, n, ns, hp, h⟩ := m1
    exact p1 _ S1 H1 (ok.setO w1 i hG n ns hp h)
def retF (f : Rho → Res D) : Rho → SR := fun r => liftS r (f r) .rt
theorem ds_ret (hg : Gok c G) (hr : c.rm = false) (he : PE X e (tV c G f)) : PS X (.Return (some e) pos) (sD c L G G' (retF f)) := ps_imp (ps_ret he) fun E σ H ⟨S0, H0, S, r, ok, p⟩ => st_seq hg ok p fun d v S1 H1 w1 o1 m1 p1 => by
  unfold PostS at p1
  rw [hr] at p1
  exact p1 v S1 H1 o1.fwd m1
theorem ds_retO (hg : Gok c G) (hr : c.rm = true) (he : PE X e (tO c G f)) : PS X (.Return (some e) pos) (sD c L G G' (retF f)) := ps_imp (ps_ret he) fun E σ H ⟨S0, H0, S, r, ok, p⟩ => st_seq hg ok p fun d v S1 H1 w1 o1 m1 p1 => by
  unfold PostS at p1
  rw [hr] at p1
  obtain ⟨q, ho, rfl, n, ns, hp, h⟩ := m1
  exact p1 q ho S1 H1 o1.fwd (ok.fwd.h.nn n) ns hp h
/-- return x, x an own object -/
theorem ds_retI (i : Nat) {x : Str} {pos' : Pos} (hr : c.rm = true) (k : kd G i = .o) (he : PE X (.Name x pos') (tVar i)) : PS X (.Return (some (.Name x pos')) pos) (sD c L G G' (retF (dVar i))) := ps_imp (ps_ret he) fun E σ H ⟨S0, H0, S, r, ok, p⟩ => by
  unfold retF dVar at p
  split at p
  · rename_i d hd
    obtain ⟨q, ho, s1, s2, s3, s4, s5⟩ := ok.own k hd
    unfold liftS PostS at p
    dsimp only at p
    rw [hr] at p
    exact ⟨.ref q, s1, p q ho S H ok.fwd s4 s3 s2 s5⟩
  · exact p.elim
theorem ds_retN (hr : c.rm = false) : PS X (.Return none pos) (sD c L G G' (fun _ => .rt .non)) := ps_imp ps_retN fun E σ H ⟨S0, H0, S, r, ok, p⟩ => by
  unfold PostS at p
  rw [hr] at p
  exact p .non S H ok.fwd .non
def dropF {α : Type} (f : Rho → Res α) : Rho → SR := fun r => liftS r (f r) fun _ => .nx r
theorem ds_expr {R : Md V D} (hg : Gok c G) (he : PE X e (rd c G f R)) (hs : swapsWith e none pos.line X.env = pure false := by rfl) : PS X (.Expr e pos) (sD c L G G (dropF f)) := ps_imp (ps_expr he hs) fun E σ H ⟨S0, H0, S, r, ok, p⟩ =>
  st_seq hg ok p fun d v S1 H1 w1 o1 m1 p1 => p1 σ S1 H1 o1
theorem ds_pass : PS X (.Pass pos) (sD c L G G .nx) := ps_imp ps_pass fun E σ H ⟨S0, H0, S, r, ok, p⟩ => p σ S H ok
theorem ds_break : PS X (.Break pos) (sD c G G G' .bk) := ps_imp ps_break fun E σ H ⟨S0, H0, S, r, ok, p⟩ => p σ S H ok
theorem ds_cont : PS X (.Continue pos) (sD c G G G' .ct) := ps_imp ps_continue fun E σ H ⟨S0, H0, S, r, ok, p⟩ => p σ S H ok
def ifF (t : Rho → Res Bool) (F K : Rho → SR) : Rho → SR := fun r => liftS r (t r) fun b => if b = true then F r else K r
theorem ds_if {cnd : Expr} {sa sb : List Stmt} {t : Rho → Res Bool} {F K : Rho → SR} (hg : Gok c G) (hc : PT X cnd (tT c G t)) (ha : PSs X sa (sD c L G G' F)) (hb : PSs X sb (sD c L G G' K)) : PS X (.If cnd sa sb pos) (sD c L G G' (ifF t F K)) :=
  ps_imp (ps_if hc ha hb) fun E σ H ⟨S0, H0, S, r, ok, p⟩ => st_seq hg ok p fun x v S1 H1 w1 o1 m1 p1 => by
    rw [show v = x from m1]
    cases x with
    | true => exact ⟨S0, H0, S1, r, o1, p1⟩
    | false => exact ⟨S0, H0, S1, r, o1, p1⟩
/-! ### x.append(e), x[i] = e, x.pop(), .. of an own list -/
variable {a b : Expr} {f1 f2 : Rho → Res D} {apos cpos p' : Pos}
/-- the own list in slot i -/
def ownL (i : Nat) (r : Rho) : Res (List D) := match r[i]? with
  | some (some (.lst ds)) => .ok ds
  | _ => .bad
theorem of_ownL {i : Nat} {k : List D → SR} (e : EnvOk c S0 H0 G S H σ r) (kd' : kd G i = .o) (p : PostS c S0 H0 L G' (liftS r (ownL i r) k) E) :
    ∃ q xs ds, r[i]? = some (some (.lst ds)) ∧ σ[i]? = some (some (.ref q)) ∧ H q = some (.lst xs) ∧ RpA c.K c.cm S xs ds ∧ PostS c S0 H0 L G' (k ds) E := by
  unfold ownL at p
  split at p
  · rename_i ds hd
    obtain ⟨q, ho, s1, s2, s3, s4, s5⟩ := e.own kd' hd
    cases s5 with
    | lst r1 => exact ⟨q, _, ds, hd, s1, s2, r1, p⟩
  · exact p.elim
noncomputable def guardS (p : Prop) (x : SR) : SR := @ite _ p (Classical.propDecidable p) x .bad
theorem guardS_pos {p : Prop} {x : SR} (h : p) : guardS p x = x := by unfold guardS; exact if_pos h
theorem guardS_true {x : SR} : guardS True x = x := guardS_pos trivial
noncomputable def appF (i : Nat) (f : Rho → Res D) : Rho → SR := fun r => liftS r (ownL i r) fun ds => liftS r (f r) fun d => guardS (ds.length < sizeLine) (.nx (r.set i (some (.lst (ds ++ [d])))))
theorem PostS.ite {p : Prop} [Decidable p] {x : SR} (h : PostS c S0 H0 L G' (if p then x else .bad) E) : p ∧ PostS c S0 H0 L G' x E := by
  by_cases hp : p
  · rw [if_pos hp] at h; exact ⟨hp, h⟩
  · rw [if_neg hp] at h; exact h.elim
theorem PostS.gd {p : Prop} {x : SR} (h : PostS c S0 H0 L G' (guardS p x) E) : p ∧ PostS c S0 H0 L G' x E := by
  by_cases hp : p
  · rw [guardS_pos hp] at h; exact ⟨hp, h⟩
  · unfold guardS at h; rw [if_neg hp] at h; exact h.elim
theorem pe_app {o : Expr} {to te : TE} (ho : PE X o to) (he : PE X e te) (hbase : attributeBase o "append" X.env (eval o X.env) = eval o X.env := by rfl)
    (hfew : ((backTo cpos (starEach [e] X.env)).all (fun x => !x.1) && (backToKw cpos (keywordEach [] X.env)).all (fun x => x.1.isSome) && decide ([e].length + ([] : List Keyword).length + (if ([] : List Keyword).isEmpty then 0 else 1) < 30)) = true := by rfl)
    (hline : (apos.endLine == cpos.line) = true := by rfl) (hs : starEach [e] X.env = (false, eval e X.env) :: starEach [] X.env := by rfl) :
    PE X (.Call (.Attribute o "append" apos) [e] [] cpos) (tBM X.K "list" rAppend to (tCons te tNil)) :=
  pe_bm PySem.F.plainAttrs_list PySem.F.slot_list_append PySem.F.type_list_append mt_append ho (pa_cons he pa_nil hs) hbase hfew hline hs rfl
theorem ds_app (i : Nat) {x : Str} {pn : Pos} (hg : Gok c G) (k : kd G i = .o) (ho : PE X (.Name x pn) (tVar i)) (he : PE X e (tV c G f)) (hw : swapsWith (.Call (.Attribute (.Name x pn) "append" apos) [e] [] cpos) none pos.line X.env = pure false := by rfl)
    (hbase : attributeBase (.Name x pn) "append" X.env (eval (.Name x pn) X.env) = eval (.Name x pn) X.env := by rfl)
    (hfew : ((backTo cpos (starEach [e] X.env)).all (fun x => !x.1) && (backToKw cpos (keywordEach [] X.env)).all (fun x => x.1.isSome) && decide ([e].length + ([] : List Keyword).length + (if ([] : List Keyword).isEmpty then 0 else 1) < 30)) = true := by rfl)
    (hline : (apos.endLine == cpos.line) = true := by rfl) (hs : starEach [e] X.env = (false, eval e X.env) :: starEach [] X.env := by rfl) :
    PS X (.Expr (.Call (.Attribute (.Name x pn) "append" apos) [e] [] cpos) pos) (sD c L G G (appF i f)) :=
  ps_imp (ps_expr (pe_app ho he hbase hfew hline hs) hw) fun E σ H ⟨S0, H0, S, r, ok, p⟩ => by
    obtain ⟨q, xs, ds, hd, z1, z2, z3, p1⟩ := of_ownL ok k p
    refine ⟨.ref q, z1, .inl ⟨rfl, xs, .inl (.inl z2)⟩, st_seq hg ok p1 fun d v S1 H1 w1 o1 m1 p2 => ?_⟩
    obtain ⟨hl, p2⟩ := p2.gd
    exact ⟨q, xs, v, rfl, rfl, w1.h _ _ z2, by rw [z3.length]; exact hl, p2 σ S1 _ (o1.mut k hd z1 (.lst ((z3.mono w1.s).app (.one m1))))⟩
/-- x[i] = e, x an own list -/
def stoF (i : Nat) (fi f : Rho → Res D) : Rho → SR := fun r => liftS r (f r) fun d => liftS r (ownL i r) fun ds => liftS r (fi r) fun k => liftS r (asI k) fun k => match ixN ds.length k with
  | some j => .nx (r.set i (some (.lst (ds.set j d))))
  | none => .bad
theorem ds_sto (i : Nat) {x : Str} {pn : Pos} {ix : Expr} {fi : Rho → Res D} (hg : Gok c G) (k : kd G i = .o) (ho : PE X (.Name x pn) (tVar i)) (hi : PE X ix (tV c G fi)) (he : PE X e (tV c G f))
    (ha : ∀ v, assign (.Subscript (.Name x pn) ix p') X.env v = (do
      let ov ← holding [v] (eval (.Name x pn) X.env)
      let iv ← holding [v, ov] (eval ix X.env)
      standAt p'
      holding [v, ov, iv] (setItem ov iv v)
      release [v, ov, iv] []) := by intro _; rfl)
    (hs : swapsWithSole [.Subscript (.Name x pn) ix p'] e pos.line X.env = pure false := by rfl) (hw : swappedStores [.Subscript (.Name x pn) ix p'] e X.env = pure none := by rfl)
    (h1 : (assignEach [.Subscript (.Name x pn) ix p'] X.env).map (·.2) = [assign (.Subscript (.Name x pn) ix p') X.env] := by rfl) :
    PS X (.Assign [.Subscript (.Name x pn) ix p'] e pos) (sD c L G G (stoF i fi f)) :=
  ps_imp (ps_asg he (pg_sub ho hi set_list ha) hs hw h1) fun E σ H ⟨S0, H0, S, r, ok, p⟩ => st_seq hg ok p fun d v S1 H1 w1 o1 m1 p1 => by
    obtain ⟨q, xs, ds, hd, z1, z2, z3, p2⟩ := of_ownL o1 k p1
    refine ⟨.ref q, z1, st_seq hg o1 p2 fun kk u S2 H2 w2 o2 m2 p3 => ?_⟩
    cases kk with
    | int j =>
      cases m2
      dsimp only [asI, liftS] at p3
      split at p3
      · rename_i n hn
        refine ⟨q, xs, j, n, rfl, rfl, w2.h _ _ z2, by rw [z3.length]; exact hn, p3 σ S2 _ (o2.mut k hd z1 (.lst (RpA.set (Rp.mono w2.s m1) n (z3.mono w2.s))))⟩
      · exact p3.elim
    | _ => exact p3.elim
/-! ### targets -/
/-- what is wanted behind a target -/
def PostR (c : Cf) (S0 H0 S H : Hp) (G' : List Ow) (σ : St) (ks : List Nat) (x : Res Rho) (Q : St → Hp → Prop) : Prop := match x with
  | .ok r' => ∀ σ', wipe σ' ks = wipe σ ks → EnvOk c S0 H0 G' S H σ' r' → Q σ' H
  | _ => False
theorem wipe_get (σ : St) : ∀ (vs : List Nat) (i : Nat), (wipe σ vs)[i]? = if i ∈ vs then σ[i]?.map (fun _ => none) else σ[i]?
  | [], i => by simp [wipe]
  | v :: vs, i => by
    show ((wipe σ vs).set v none)[i]? = _
    by_cases h : v = i
    · subst h
      rw [List.getElem?_set, if_pos rfl, wipe_length, if_pos (List.mem_cons_self)]
      split
      · rename_i hl; simp [List.getElem?_eq_getElem hl]
      · rename_i hl; rw [List.getElem?_eq_none (by omega)]; rfl
    · rw [List.getElem?_set_ne h, wipe_get σ vs i]
      have : (i ∈ v :: vs) ↔ i ∈ vs := by simp [List.mem_cons, Ne.symm h]
      simp only [this]
theorem wipe_set {σ : St} {i : Nat} {x : Option V} : wipe (σ.set i x) [i] = wipe σ [i] := by
  show (σ.set i x).set i none = σ.set i none
  exact List.set_set _
theorem wipe_len {σ σ' : St} {ks : List Nat} (h : wipe σ' ks = wipe σ ks) : σ'.length = σ.length := by
  have := congrArg List.length h
  rw [wipe_length, wipe_length] at this
  exact this
theorem wipe_get_eq {σ σ' : St} {ks : List Nat} (h : wipe σ' ks = wipe σ ks) {i : Nat} (hi : i ∉ ks) : σ'[i]? = σ[i]? := by
  have := congrArg (fun l : St => l[i]?) h
  simp only [wipe_get, if_neg hi] at this
  exact this
theorem wipe_app {σ σ1 σ2 : St} {k1 k2 : List Nat} (h1 : wipe σ1 k1 = wipe σ k1) (h2 : wipe σ2 k2 = wipe σ1 k2) : wipe σ2 (k1 ++ k2) = wipe σ (k1 ++ k2) := by
  have l1 := wipe_len h1
  have l2 := wipe_len h2
  apply List.ext_getElem?
  intro i
  rw [wipe_get, wipe_get]
  by_cases hi : i ∈ k1 ++ k2
  · rw [if_pos hi, if_pos hi]
    by_cases hl : i < σ.length
    · rw [List.getElem?_eq_getElem hl, List.getElem?_eq_getElem (show i < σ2.length by omega)]; rfl
    · rw [List.getElem?_eq_none (by omega), List.getElem?_eq_none (by omega)]
  · rw [if_neg hi, if_neg hi]
    have a1 : i ∉ k1 := fun z => hi (List.mem_append_left _ z)
    have a2 : i ∉ k2 := fun z => hi (List.mem_append_right _ z)
    rw [wipe_get_eq h2 a2, wipe_get_eq h1 a1]
/-- a target by data -/
def gD (c : Cf) (G G' : List Ow) (ks : List Nat) (t : D → Rho → Res Rho) : TG := fun v σ H Q => ∃ S0 H0 S r d, EnvOk c S0 H0 G S H σ r ∧ Rp c.K c.cm S v d ∧ PostR c S0 H0 S H G' σ ks (t d r) Q
theorem pg_imp {tg : Expr} {t t' : TG} (h : PG X tg t) (k : ∀ v σ H Q, t' v σ H Q → t v σ H Q) : PG X tg t' := ⟨fun pins s σ H v u Q I r q => h.run pins s σ H v u Q I r (k v σ H Q q)⟩
theorem pgs_imp {tg : List Expr} {t t' : TGs} (h : PGs X tg t) (k : ∀ v σ H Q, t' v σ H Q → t v σ H Q) : PGs X tg t' := ⟨fun pins s σ H v u Q I r q => h.run pins s σ H v u Q I r (k v σ H Q q)⟩
def tgN (i : Nat) : D → Rho → Res Rho := fun d r => .ok (r.set i (some d))
theorem dg_name (i : Nat) {x : Str} (hN : X.N.Nodup) (hi : X.N[i]? = some x) (hx : Loc X.env.scope x) (hf : X.fn x = true ∨ X.env.scope.names.lookup x = some .local := by first | exact .inl rfl | exact .inr rfl | assumption) :
    PG X (.Name x pos) (gD c G (G.set i .v) [i] (tgN i)) := pg_imp (pg_name hN hi hx hf) fun v σ H Q ⟨S0, H0, S, r, d, ok, hv, p⟩ => p _ wipe_set (ok.setV i hv)
def gDs (c : Cf) (G G' : List Ow) (ks : List Nat) (t : List D → Rho → Res Rho) : TGs := fun vs σ H Q => ∃ S0 H0 S r ds, EnvOk c S0 H0 G S H σ r ∧ RpA c.K c.cm S vs ds ∧ PostR c S0 H0 S H G' σ ks (t ds r) Q
def tgNil : List D → Rho → Res Rho
  | [], r => .ok r
  | _ :: _, _ => .bad
def tgCons (t : D → Rho → Res Rho) (u : List D → Rho → Res Rho) : List D → Rho → Res Rho
  | [], _ => .bad
  | d :: ds, r => (t d r).bind (u ds)
theorem dg_nil : PGs X [] (gDs c G G [] tgNil) := pgs_imp pgs_nil fun vs σ H Q ⟨S0, H0, S, r, ds, ok, hv, p⟩ => by
  cases hv with
  | nil => exact ⟨rfl, p σ rfl ok⟩
  | cons _ _ => exact p.elim
theorem dg_cons {es : List Expr} {t : D → Rho → Res Rho} {u : List D → Rho → Res Rho} {k1 k2 : List Nat} (h1 : PG X e (gD c G G' k1 t)) (h2 : PGs X es (gDs c G' G'' k2 u)) (hs : (assignEach (e :: es) X.env).map (·.2) = assign e X.env :: (assignEach es X.env).map (·.2) := by rfl) :
    PGs X (e :: es) (gDs c G G'' (k1 ++ k2) (tgCons t u)) := pgs_imp (pgs_cons h1 h2 hs) fun vs σ H Q ⟨S0, H0, S, r, ds, ok, hv, p⟩ => by
  cases hv with
  | nil => exact p.elim
  | @cons v vs d ds hv hr =>
    refine ⟨v, vs, rfl, S0, H0, S, r, d, ok, hv, ?_⟩
    have p : PostR c S0 H0 S H G'' σ (k1 ++ k2) ((t d r).bind (u ds)) Q := p
    cases ht : t d r with
    | ok r1 =>
      rw [ht] at p
      intro σ1 z1 ok1
      refine ⟨S0, H0, S, r1, ds, ok1, hr, ?_⟩
      have p : PostR c S0 H0 S H G'' σ (k1 ++ k2) (u ds r1) Q := p
      cases hu : u ds r1 with
      | ok r2 => rw [hu] at p; exact fun σ2 z2 ok2 => p σ2 (wipe_app z1 z2) ok2
      | err _ _ _ => rw [hu] at p; exact p.elim
      | bad => rw [hu] at p; exact p.elim
    | err _ _ _ => rw [ht] at p; exact p.elim
    | bad => rw [ht] at p; exact p.elim
def tgT (n : Nat) (u : List D → Rho → Res Rho) : D → Rho → Res Rho := fun d r => match d with
  | .tup ds => if ds.length = n then u ds r else .bad
  | _ => .bad
theorem dg_tup {es : List Expr} {k n : Nat} {ks : List Nat} {u : List D → Rho → Res Rho} (hc : X.calm = true) (h : PGs X es (gDs c G G' ks u)) (hn : (assignEach es X.env).length = n := by rfl) (hst : (assignEach es X.env).findIdx? (·.1) = none := by rfl) (hK : c.K = X.K := by rfl) :
    PG X (.Tuple es k pos) (gD c G G' ks (tgT n u)) := pg_imp (pg_tup hc h hn hst) fun v σ H Q ⟨S0, H0, S, r, d, ok, hv, p⟩ => by
  unfold tgT at p
  cases hv with
  | @tup a xs ds q rr =>
    dsimp only at p
    by_cases hl : ds.length = n
    · rw [if_pos hl] at p
      exact ⟨a, xs, rfl, by rw [← hK]; exact ok.ex.t q, by rw [rr.length]; exact hl, S0, H0, S, r, ds, ok, rr, p⟩
    · rw [if_neg hl] at p; exact p.elim
  | _ => exact p.elim
def asgF (t : D → Rho → Res Rho) (f : Rho → Res D) : Rho → SR := fun r => liftS r (f r) fun d => match t d r with
  | .ok r' => .nx r'
  | _ => .bad
/-- target = e -/
theorem ds_asg {tg : Expr} {ks : List Nat} {t : D → Rho → Res Rho} (hg : Gok c G) (he : PE X e (tV c G f)) (ht : PG X tg (gD c G G' ks t)) (hs : swapsWithSole [tg] e pos.line X.env = pure false := by rfl) (hw : swappedStores [tg] e X.env = pure none := by rfl)
    (h1 : (assignEach [tg] X.env).map (·.2) = [assign tg X.env] := by rfl) : PS X (.Assign [tg] e pos) (sD c L G G' (asgF t f)) := ps_imp (ps_asg he ht hs hw h1) fun E σ H ⟨S0, H0, S, r, ok, p⟩ => st_seq hg ok p fun d v S1 H1 w1 o1 m1 p1 => by
  refine ⟨S0, H0, S1, r, d, o1, m1, ?_⟩
  cases ht : t d r with
  | ok r' => rw [ht] at p1; exact fun σ' _ ok' => p1 σ' S1 H1 ok'
  | err _ _ _ => rw [ht] at p1; exact p1.elim
  | bad => rw [ht] at p1; exact p1.elim
/-- x, y = a, b -/
def parF (i j : Nat) (f1 f2 : Rho → Res D) : Rho → SR := fun r => liftS r (dCons f1 (dCons f2 dNil) r) fun ds => match ds with
  | [d, e] => .nx ((r.set i (some d)).set j (some e))
  | _ => .bad
theorem ds_par (i j : Nat) {x y : Str} {px py pt pt2 : Pos} {kt k2 : Nat} (hg : Gok c G) (hc : X.calm = true) (hN : X.N.Nodup) (hi : X.N[i]? = some x) (hj : X.N[j]? = some y) (hij : i ≠ j)
    (hx : X.env.scope.names.lookup x = some .local) (hy : X.env.scope.names.lookup y = some .local) (ha : PE X a (tV c G f1)) (hb : PE X b (tV c G f2))
    (hw : swappedStores [.Tuple [.Name x px, .Name y py] kt pt] (.Tuple [a, b] k2 pt2) X.env = pure (some [x, y]))
    (hs : swapsWithSole [.Tuple [.Name x px, .Name y py] kt pt] (.Tuple [a, b] k2 pt2) pos.line X.env = pure false := by rfl)
    (hs1 : starEach [a, b] X.env = (false, eval a X.env) :: starEach [b] X.env := by rfl) (hs2 : starEach [b] X.env = (false, eval b X.env) :: starEach [] X.env := by rfl) :
    PS X (.Assign [.Tuple [.Name x px, .Name y py] kt pt] (.Tuple [a, b] k2 pt2) pos) (sD c L G ((G.set i .v).set j .v) (parF i j f1 f2)) :=
  ps_imp (ps_par hc hN hi hj hij hx hy (da_cons ha (da_cons hb da_nil hs2) hs1) hw hs) fun E σ H ⟨S0, H0, S, r, ok, p⟩ => st_seq hg ok p fun ds vs S1 H1 w1 o1 m1 p1 => by
    match ds, m1, p1 with
    | [d, e], .cons hd (.cons he .nil), p1 => exact ⟨_, _, rfl, p1 _ S1 H1 ((o1.setV i hd).setV j he)⟩
    | [], _, p1 => exact p1.elim
    | [_], _, p1 => exact p1.elim
    | _ :: _ :: _ :: _, _, p1 => exact p1.elim
/-! ### what is walked -/
def YOk (c : Cf) (S' : Hp) (ds : List D) (Y : Nat → Hp → V → Hp → Prop) : Prop := ∀ i S1 H1 x H2, i < ds.length → Ex S' S1 → Ex S1 H1 → Y i H1 x H2 → ∃ S2 d, Fwd S1 H1 S2 H2 ∧ ds[i]? = some d ∧ Rp c.K c.cm S2 x d
/-- the iterator J gives the data ds -/
def Gives (c : Cf) (H0 S' : Hp) (J : It) (ds : List D) : Prop := ∃ Gd Y, Walk J ds.length Gd Y ∧ (∀ S'' H'', Ex S' S'' → Ex S'' H'' → Ex H0 H'' → Gd H'') ∧ YOk c S' ds Y
def iD (c : Cf) (G : List Ow) (f : Rho → Res (List D)) : TI := fun σ H R => ∃ S0 H0 S r, EnvOk c S0 H0 G S H σ r ∧ PostG c σ S H (f r) fun ds S' H' => ∀ J, Gives c H0 S' J ds → R J H'
theorem pi_imp {tg it : Expr} {t t' : TI} (h : PI X tg it t) (k : ∀ σ H R, t' σ H R → t σ H R) : PI X tg it t' := ⟨fun pins s σ H R I q => h.run pins s σ H R I (k σ H R q)⟩
def dIt (g : D → Res (List D)) (f : Rho → Res D) : Rho → Res (List D) := fun r => (f r).bind g
theorem gives_list {c : Cf} {H0 S : Hp} {q : Addr} {xs : List V} {ds : List D} (h : SqL c.K S q xs) (rr : RpA c.K c.cm S xs ds) : Gives c H0 S (Itl c.K q) ds := by
  refine ⟨_, _, by rw [← rr.length]; exact walk_list (K := c.K) (a := q) (xs := xs), fun S'' H'' e1 e2 _ => e2.l (e1.l h), fun i S1 H1 x H2 hi e1 e2 y => ?_⟩
  obtain ⟨rfl, hx⟩ := y
  obtain ⟨d, h1, h2⟩ := rr.getV hx
  exact ⟨S1, d, Fwd.refl e2, h1, h2.mono e1⟩
theorem gives_tup {c : Cf} {H0 S : Hp} {q : Addr} {xs : List V} {ds : List D} (h : SqT c.K S q xs) (rr : RpA c.K c.cm S xs ds) : Gives c H0 S (Itt c.K q) ds := by
  refine ⟨_, _, by rw [← rr.length]; exact walk_tup (K := c.K) (a := q) (xs := xs), fun S'' H'' e1 e2 _ => e2.t (e1.t h), fun i S1 H1 x H2 hi e1 e2 y => ?_⟩
  obtain ⟨rfl, hx⟩ := y
  obtain ⟨d, h1, h2⟩ := rr.getV hx
  exact ⟨S1, d, Fwd.refl e2, h1, h2.mono e1⟩
variable {tg : Expr}
theorem di_list (he : PE X e (tV c G f)) (hK : c.K = X.K := by rfl) : PI X tg e (iD c G (dIt itemsL f)) := pi_imp (pi_list he) fun σ H R ⟨S0, H0, S, r, ok, p⟩ => rd_seq ok p fun d v S1 H1 w1 o1 m1 p1 => by
  rw [← hK]
  cases d with
  | lst ds =>
    cases m1 with | @lst q xs _ h rr =>
    exact ⟨q, rfl, ⟨xs, .inl (.inl (o1.ex _ _ h))⟩, p1.go o1.ex _ (gives_list (.inl (.inl h)) rr)⟩
  | fz ds =>
    cases m1 with | @fz q xs _ h rr =>
    exact ⟨q, rfl, ⟨xs, o1.ex.l h⟩, p1.go o1.ex _ (gives_list h rr)⟩
  | _ => exact p1.elim
theorem di_tup (he : PE X e (tV c G f)) (hK : c.K = X.K := by rfl) : PI X tg e (iD c G (dIt itemsT f)) := pi_imp (pi_tup he) fun σ H R ⟨S0, H0, S, r, ok, p⟩ => rd_seq ok p fun d v S1 H1 w1 o1 m1 p1 => by
  rw [← hK]
  cases d with
  | tup ds =>
    cases m1 with | @tup q xs _ h rr =>
    exact ⟨q, rfl, ⟨xs, o1.ex.t h⟩, p1.go o1.ex _ (gives_tup h rr)⟩
  | _ => exact p1.elim
/-- a borrowed list: a parameter's slot -/
theorem di_bor (i : Nat) {x : Str} (he : PE X (.Name x pos) (tVar i)) (k : kd G i = .b) (hK : c.K = X.K := by rfl) : PI X tg (.Name x pos) (iD c G (dIt itemsL (dVar i))) := pi_imp (pi_list he) fun σ H R ⟨S0, H0, S, r, ok, p⟩ => by
  obtain ⟨d, hd, p⟩ := of_dVar (p.unbind)
  obtain ⟨v, h1, h2⟩ := ok.slot i d hd
  rw [k] at h2
  have p1 := p.go ok.ex
  refine ⟨v, h1, ?_⟩
  rw [← hK]
  cases d with
  | lst ds =>
    rcases h2 with h2 | ⟨q, ho, rfl, h3, h4⟩
    · cases h2 with | @lst q xs _ h rr =>
      exact ⟨q, rfl, ⟨xs, .inl (.inl (ok.ex _ _ h))⟩, p1.go ok.ex _ (gives_list (.inl (.inl h)) rr)⟩
    · cases h4 with | @lst xs _ rr =>
      refine ⟨q, rfl, ⟨xs, .inl (.inl (ok.fwd.h _ _ h3))⟩, p1.go ok.ex _ ⟨_, _, by rw [← rr.length]; exact walk_list (K := c.K) (a := q) (xs := xs), fun S'' H'' e1 e2 e3 => show SqL c.K H'' q xs from .inl (.inl (e3 _ _ h3)), fun i S1 H1 x H2 hi e1 e2 y => ?_⟩⟩
      obtain ⟨rfl, hx⟩ := y
      obtain ⟨d, h1, h2⟩ := rr.getV hx
      exact ⟨S1, d, Fwd.refl e2, h1, h2.mono e1⟩
  | fz ds =>
    rcases h2 with h2 | ⟨q, ho, rfl, h3, h4⟩
    · cases h2 with | @fz q xs _ h rr =>
      exact ⟨q, rfl, ⟨xs, ok.ex.l h⟩, p1.go ok.ex _ (gives_list h rr)⟩
    · cases h4
  | _ => exact p1.elim
/-- range(n), range(a, b) -/
def rngL (lo : Int) (n : Nat) : List D := (List.range n).map fun (i : Nat) => D.int (lo + (i : Int))
theorem gives_rng {c : Cf} {H0 S : Hp} {lo : Int} {n : Nat} : Gives c H0 S (Itr lo n) (rngL lo n) := by
  have hl : (rngL lo n).length = n := by unfold rngL; simp
  refine ⟨_, _, by rw [hl]; exact walk_range, fun _ _ _ _ _ => trivial, fun i S1 H1 x H2 hi e1 e2 y => ?_⟩
  obtain ⟨rfl, rfl⟩ := y
  rw [hl] at hi
  exact ⟨S1, .int (lo + (i : Int)), Fwd.refl e2, by unfold rngL; simp [hi], .int _⟩
noncomputable def rng1 : List D → Res (List D)
  | [.int n] => guard (-4611686018427387904 ≤ n ∧ n < 4611686018427387904) (.ok (rngL 0 n.toNat))
  | _ => .bad
noncomputable def rng2 : List D → Res (List D)
  | [.int a, .int b] => guard (-4611686018427387904 ≤ a ∧ a < 4611686018427387904 ∧ -4611686018427387904 ≤ b ∧ b < 4611686018427387904) (.ok (rngL a (b - a).toNat))
  | _ => .bad
def dIts (g : List D → Res (List D)) (fs : Rho → Res (List D)) : Rho → Res (List D) := fun r => (fs r).bind g
theorem di_rng1 {p : Pos} {fs : Rho → Res (List D)} (hm : X.mg "range" = none) (hg : Gl X "range") (ha : PA X [a] (tAs c G fs)) (hs : starEach [a] X.env = [(false, eval a X.env)] := by rfl) : PI X tg (.Call (.Name "range" p) [a] [] pos) (iD c G (dIts rng1 fs)) :=
  pi_imp (pi_range1 hg hm ha hs) fun σ H R ⟨S0, H0, S, r, ok, p⟩ => rd_seq ok p fun ds vs S1 H1 w1 o1 m1 p1 => by
    unfold rng1 at p1
    split at p1
    · obtain ⟨hl, p1⟩ := p1.gd
      match vs, m1 with
      | _, .cons h .nil => cases h; exact ⟨_, rfl, by have := hl.1; omega, by have := hl.2; omega, p1.go o1.ex _ gives_rng⟩
    · exact p1.elim
theorem di_rng2 {p : Pos} {fs : Rho → Res (List D)} (hm : X.mg "range" = none) (hg : Gl X "range") (ha : PA X [a, b] (tAs c G fs)) (hs : starEach [a, b] X.env = [(false, eval a X.env), (false, eval b X.env)] := by rfl) (hs2 : starEach [b] X.env = [(false, eval b X.env)] := by rfl) :
    PI X tg (.Call (.Name "range" p) [a, b] [] pos) (iD c G (dIts rng2 fs)) :=
  pi_imp (pi_range2 hg hm ha hs hs2) fun σ H R ⟨S0, H0, S, r, ok, p⟩ => rd_seq ok p fun ds vs S1 H1 w1 o1 m1 p1 => by
    unfold rng2 at p1
    split at p1
    · obtain ⟨hl, p1⟩ := p1.gd
      match vs, m1 with
      | _, .cons h (.cons h' .nil) => cases h; cases h'; exact ⟨_, _, rfl, by obtain ⟨h1, h2, h3, h4⟩ := hl; omega, p1.go o1.ex _ gives_rng⟩
    · exact p1.elim
/-- the signs of a text -/
def signs (z : Str) : List D := z.cps.toList.map fun n => .str ⟨#[n]⟩
def itemsS : D → Res (List D)
  | .str z => .ok (signs z)
  | _ => .bad
theorem di_str (he : PE X e (tV c G f)) : PI X tg e (iD c G (dIt itemsS f)) := pi_imp (pi_str he) fun σ H R ⟨S0, H0, S, r, ok, p⟩ => rd_seq ok p fun d v S1 H1 w1 o1 m1 p1 => by
  cases d with
  | str z =>
    cases m1
    have hl : (signs z).length = z.cps.size := by unfold signs; simp
    refine ⟨z, rfl, p1.go o1.ex _ ⟨_, _, by rw [hl]; exact walk_str (z := z), fun _ _ _ _ _ => trivial, fun i S2 H2 x H3 hi e1 e2 y => ?_⟩⟩
    obtain ⟨rfl, n, hn, rfl⟩ := y
    refine ⟨S2, .str ⟨#[n]⟩, Fwd.refl e2, ?_, .str _⟩
    unfold signs
    rw [List.getElem?_map, Array.getElem?_toList, hn]; rfl
  | _ => exact p1.elim
/-! ### for -/
def loopF (t : D → Rho → Res Rho) (F : Rho → SR) : List D → Rho → SR
  | [], r => .nx r
  | d :: ds, r => match t d r with
    | .ok r1 => match F r1 with
      | .nx r2 => loopF t F ds r2
      | .ct r2 => loopF t F ds r2
      | .bk r2 => .nx r2
      | o => o
    | _ => .bad
def forF (its : Rho → Res (List D)) (t : D → Rho → Res Rho) (F : Rho → SR) : Rho → SR := fun r => liftS r (its r) fun ds => loopF t F ds r
theorem ds_for {iter : Expr} {body : List Stmt} {its : Rho → Res (List D)} {ks : List Nat} {t : D → Rho → Res Rho} {F : Rho → SR} (hg : Gok c G) (hp : PassesOwn (model X.prog X.w) X.A X.env X.xe) (hc : X.calm = true) (hi : PI X tg iter (iD c G its)) (ht : PG X tg (gD c G G' ks t)) (hb : PSs X body (sD c G G' G F))
    (hs : ∀ x, foldedSetIterable iter X.env x = pure x := by intro _; rfl) : PS X (.For tg iter body [] pos) (sD c L G G (forF its t F)) :=
  ps_imp (ps_for hp hc hi ht hb hs) fun E σ H ⟨S0, H0, S, r, ok, p⟩ => by
    refine ⟨S0, H0, S, r, ok, ?_⟩
    unfold forF at p
    cases hf : its r with
    | err n ns vs =>
      rw [hf] at p
      exact fun C dd S' H' fs h1 fw h2 h3 h4 => p C dd σ S' H' fs h1 (ok.fwd.trans fw) (fun g q => by rw [hg g q]; exact ok.go fw) h2 h3 h4
    | bad => rw [hf] at p; exact p.elim
    | ok ds =>
      rw [hf] at p
      intro S1 H1 w1 J ⟨Gd, Y, wk, hG, hY⟩
      have p : PostS c S0 H0 L G (loopF t F ds r) E := p
      refine for_it wk (fun i σ' H' => ∃ S' r', Ex S1 S' ∧ EnvOk c S0 H0 G S' H' σ' r' ∧ PostS c S0 H0 L G (loopF t F (ds.drop i) r') E) ⟨S1, r, Ex.refl, ok.go w1, by rw [List.drop_zero]; exact p⟩ ?_ ?_ ?_
      · rintro i σ' H' _ ⟨S', r', e1, ok', _⟩
        exact hG S' H' e1 ok'.ex ok'.fwd.h
      · rintro i x σ' H' H2 hi ⟨S', r', e1, ok', p'⟩ y
        obtain ⟨S2, d, fw, hd, hx⟩ := hY i S' H' x H2 hi e1 ok'.ex y
        have hdrop : ds.drop i = d :: ds.drop (i + 1) := by
          rw [List.drop_eq_getElem_cons hi]
          rw [List.getElem?_eq_getElem hi] at hd
          cases hd; rfl
        rw [hdrop] at p'
        unfold loopF at p'
        refine ⟨S0, H0, S2, r', d, ok'.go fw, hx, ?_⟩
        cases htt : t d r' with
        | err _ _ _ => rw [htt] at p'; exact p'.elim
        | bad => rw [htt] at p'; exact p'.elim
        | ok r1 =>
          rw [htt] at p'
          intro σ3 _ ok3
          refine ⟨S2, H0, S2, r1, ok3.rebase, ?_⟩
          dsimp only at p'
          have fin : ∀ σ4 S4 H4 r4, EnvOk c S2 H0 G S4 H4 σ4 r4 → PostS c S0 H0 L G (loopF t F (ds.drop (i + 1)) r4) E → ∃ S' r', Ex S1 S' ∧ EnvOk c S0 H0 G S' H4 σ4 r' ∧ PostS c S0 H0 L G (loopF t F (ds.drop (i + 1)) r') E := fun σ4 S4 H4 r4 e4 p4 =>
            ⟨S4, r4, (e1.trans fw.s).trans e4.fwd.s, e4.unbase ok3.fwd, p4⟩
          cases hF : F r1 with
          | nx r2 => rw [hF] at p'; exact fun σ4 S4 H4 e4 => fin σ4 S4 H4 r2 e4 p'
          | ct r2 => rw [hF] at p'; exact fun σ4 S4 H4 e4 => fin σ4 S4 H4 r2 e4 p'
          | bk r2 => rw [hF] at p'; exact fun σ4 S4 H4 e4 => p' σ4 S4 H4 (e4.unbase ok3.fwd)
          | rt d => rw [hF] at p'; exact PostS.rebase (c := c) (o := .rt d) (E := E) ok3.fwd p'
          | er r2 n ns vs => rw [hF] at p'; exact PostS.rebase (c := c) (o := .er r2 n ns vs) (E := E) ok3.fwd p'
          | bad => rw [hF] at p'; exact p'.elim
      · rintro σ' H' ⟨S', r', e1, ok', p'⟩
        rw [List.drop_length] at p'
        exact p' σ' S' H' ok'
end
end Dx

end S_DxE
section S_DxF
set_option Elab.async false
set_option linter.all false
set_option maxRecDepth 100000
set_option maxHeartbeats 2000000
/-! Dx, part F: comprehensions, while, defs and their calls. -/
namespace Dx
open PySem L2

/-! ### comprehensions -/
def wipeR (r : Rho) : List Nat → Rho
  | [] => r
  | v :: vs => (wipeR r vs).set v none
theorem wipeR_len (r : Rho) : ∀ vs : List Nat, (wipeR r vs).length = r.length
  | [] => rfl
  | v :: vs => by show ((wipeR r vs).set v none).length = _; rw [List.length_set, wipeR_len r vs]
theorem wipeR_some {r : Rho} {i : Nat} {d : D} : ∀ {vs : List Nat}, (wipeR r vs)[i]? = some (some d) → r[i]? = some (some d) ∧ i ∉ vs
  | [], h => ⟨h, by simp⟩
  | v :: vs, h => by
    rcases set_some (l := wipeR r vs) h with ⟨_, e, _⟩ | ⟨ne, h⟩
    · cases e
    · obtain ⟨h1, h2⟩ := wipeR_some h
      exact ⟨h1, by simp [Ne.symm ne, h2]⟩
/-- within a comprehension nothing is raised -/
abbrev Cf.calm (c : Cf) : Cf := ⟨c.K, c.cm, fun _ _ _ _ => False, none, c.rm⟩
section
variable {X : Cx} {c : Cf} {L G G' : List Ow} {σ : St} {S0 H0 S H : Hp} {r : Rho}
theorem EnvOk.wiped (e : EnvOk c S0 H0 G S H σ r) (vs : List Nat) : EnvOk c.calm S0 H0 G S H (wipe σ vs) (wipeR r vs) := by
  refine ⟨e.fwd, by rw [wipe_length, wipeR_len, e.len], fun i d h => ?_, fun i j d d' p hi hj ki kj si sj => ?_⟩
  · obtain ⟨h1, h2⟩ := wipeR_some h
    obtain ⟨v, h3, h4⟩ := e.slot i d h1
    exact ⟨v, by rw [wipe_get, if_neg h2]; exact h3, h4⟩
  · exact e.sep i j d d' p (wipeR_some hi).1 (wipeR_some hj).1 ki kj (wipe_some si).1 (wipe_some sj).1
theorem Fwd.put {S' H' : Hp} {p : Addr} {o : HO} (f : Fwd S H S' H') (n : H p = none) (ns : S' p = none) : Fwd S H S' (upd H' p o) := ⟨f.s, f.h.put n, f.sub.put ns, f.new⟩
def lcLoop (t : D → Rho → Res Rho) (tt : Rho → Res Bool) (fe : Rho → Res D) (rw : Rho) : List D → Res (List D)
  | [] => .ok []
  | d :: ds => match t d rw with
    | .ok r1 => match tt r1 with
      | .ok true => match fe r1 with
        | .ok x => match lcLoop t tt fe rw ds with
          | .ok xs => .ok (x :: xs)
          | _ => .bad
        | _ => .bad
      | .ok false => lcLoop t tt fe rw ds
      | _ => .bad
    | _ => .bad
noncomputable def dLc (its : Rho → Res (List D)) (t : D → Rho → Res Rho) (tt : Rho → Res Bool) (fe : Rho → Res D) (vs : List Nat) : Rho → Res D := fun r => (its r).bind fun ds => guard (ds.length ≤ sizeLine) (match lcLoop t tt fe (wipeR r vs) ds with
  | .ok xs => .ok (.lst xs)
  | _ => .bad)
def dYes : Rho → Res Bool := fun _ => .ok true
theorem lc_rd {its : Rho → Res (List D)} {t : D → Rho → Res Rho} {tt : Rho → Res Bool} {fe : Rho → Res D} {vs : List Nat} : ∀ σ H Q, tO c G (dLc its t tt fe vs) σ H Q →
    tLc (iD c G its) (gD c.calm G G' vs t) (tT c.calm G' tt) (tV c.calm G' fe) vs σ H Q := fun σ H Q ⟨S0, H0, S, r, ok, p⟩ => by
  refine ⟨S0, H0, S, r, ok, p.unbind.imp fun ds S1 H1 w1 p1 J gv Dl hD => ?_⟩
  obtain ⟨hl, p1⟩ := p1.gd
  obtain ⟨Gd, Y, wk, hG, hY⟩ := gv
  have ok1 := ok.go w1
  split at p1
  · rename_i res hres
    have okw := ok1.wiped vs
    have nS : S1 Dl = none := ok1.ex.nn hD
    refine lc_it wk (fun i H' => ∃ S' acc accD rest, Fwd S1 H1 S' H' ∧ S' Dl = none ∧ H' Dl = some (.lst acc) ∧ RpA c.K c.cm S' acc accD ∧ lcLoop t tt fe (wipeR r vs) (ds.drop i) = .ok rest ∧ accD ++ rest = res ∧ accD.length ≤ i)
      ⟨S1, [], [], res, Fwd.heap ok1.ex hD, nS, upd_same, .nil, by rw [List.drop_zero]; exact hres, rfl, Nat.le_refl _⟩ ?_ ?_ ?_
    · rintro i H' _ ⟨S', acc, accD, rest, fw, _⟩
      exact hG S' H' fw.s fw.sub (ok1.fwd.h.trans fw.h)
    · rintro i x H' H2 hi ⟨S', acc, accD, rest, fw, n1, h1, r1, hr, ha, hn⟩ y
      obtain ⟨S2, d, fw2, hd, hx⟩ := hY i S' H' x H2 hi fw.s fw.sub y
      have hdrop : ds.drop i = d :: ds.drop (i + 1) := by
        rw [List.drop_eq_getElem_cons hi]
        rw [List.getElem?_eq_getElem hi] at hd
        cases hd; rfl
      rw [hdrop] at hr
      unfold lcLoop at hr
      refine ⟨S0, H0, S2, wipeR r vs, d, okw.go (fw.trans fw2), hx, ?_⟩
      cases ht : t d (wipeR r vs) with
      | err _ _ _ => rw [ht] at hr; cases hr
      | bad => rw [ht] at hr; cases hr
      | ok r2 =>
        rw [ht] at hr
        dsimp only at hr
        intro σ3 z3 ok3
        have hz : L2.wipe (L2.wipe σ vs) vs = L2.wipe σ vs := by
          apply List.ext_getElem?
          intro k
          rw [wipe_get, wipe_get]
          split
          · cases σ[k]? <;> rfl
          · rfl
        have keepN : ∀ S4 H4, Fwd S' H' S4 H4 → S4 Dl = none := fun S4 H4 f4 => by
          cases q : S4 Dl with
          | none => rfl
          | some u => rw [f4.new Dl u q n1] at h1; cases h1
        refine ⟨z3.trans hz, S0, H0, S2, r2, ok3, ?_⟩
        cases htt : tt r2 with
        | err _ _ _ => rw [htt] at hr; cases hr
        | bad => rw [htt] at hr; cases hr
        | ok b =>
          rw [htt] at hr
          intro S4 H4 w4 b' hb
          cases hb
          have f4 := fw2.trans w4
          cases b with
          | false =>
            dsimp only at hr
            rw [if_neg (by decide)]
            exact ⟨S4, acc, accD, rest, fw.trans f4, keepN S4 H4 f4, f4.h _ _ h1, r1.mono f4.s, hr, ha, Nat.le_succ_of_le hn⟩
          | true =>
            dsimp only at hr
            rw [if_pos rfl]
            refine ⟨S0, H0, S4, r2, ok3.go w4, ?_⟩
            cases hfe : fe r2 with
            | err _ _ _ => rw [hfe] at hr; cases hr
            | bad => rw [hfe] at hr; cases hr
            | ok x2 =>
              rw [hfe] at hr
              dsimp only at hr
              cases hlc : lcLoop t tt fe (wipeR r vs) (ds.drop (i + 1)) with
              | err _ _ _ => rw [hlc] at hr; cases hr
              | bad => rw [hlc] at hr; cases hr
              | ok xs2 =>
                rw [hlc] at hr
                cases hr
                intro S5 H5 w5 y5 hy5
                have f5 := f4.trans w5
                refine ⟨acc, f5.h _ _ h1, ?_, S5, acc ++ [y5], accD ++ [x2], xs2, (fw.trans f5).put hD (keepN S5 H5 f5), keepN S5 H5 f5, upd_same, (r1.mono f5.s).app (.one hy5), rfl, ?_, ?_⟩
                · rw [r1.length]; omega
                · rw [← ha, List.append_assoc]; rfl
                · simp; omega
    · rintro H' ⟨S', acc, accD, rest, fw, n1, h1, r1, hr, ha, hn⟩
      rw [List.drop_length] at hr
      cases hr
      rw [List.append_nil] at ha
      subst ha
      exact p1 S' H' fw _ ⟨Dl, .lst acc, rfl, w1.h.nn hD, n1, h1, .lst r1⟩
  · exact p1.elim
theorem de_lc {elt tg iter : Expr} {ifs : List Expr} {scope : Scope} {own : List (Str × Nat)} {pos : Pos} {its : Rho → Res (List D)} {t : D → Rho → Res Rho} {tt : Rho → Res Bool} {fe : Rho → Res D} (hc : X.calm = true) (hN : X.N.Nodup) (hi : PI X tg iter (iD c G its)) (ok : BlkOk X.N X.env.scope scope own)
    (hg : ∀ (s : Shared) (H : Hp) (C : Addr) (cl : List (Str × Addr)) (fp : List Addr), PG (X.blk s H scope (compEnvC scope cl C X.env) fp) tg (gD c.calm G G' (own.map (·.2)) t)) (ht : ∀ (s : Shared) (H : Hp) (C : Addr) (cl : List (Str × Addr)) (fp : List Addr), PTs (X.blk s H scope (compEnvC scope cl C X.env) fp) ifs (tT c.calm G' tt))
    (he : ∀ (s : Shared) (H : Hp) (C : Addr) (cl : List (Str × Addr)) (fp : List Addr), PE (X.blk s H scope (compEnvC scope cl C X.env) fp) elt (tV c.calm G' fe)) (hs : ∀ x, foldedSetIterable iter X.env x = pure x := by intro _; rfl) :
    PE X (.ListComp elt [⟨tg, iter, ifs, 0⟩] scope pos) (tO c G (dLc its t tt fe (own.map (·.2)))) := pe_imp (pe_lc hc hN hi ok hg ht he hs) lc_rd
/-- name = [..] on one line, the name a local -/
theorem ds_setLc (i : Nat) {y : Str} {py : Pos} {elt tg iter : Expr} {ifs : List Expr} {scope : Scope} {own : List (Str × Nat)} {pos spos : Pos} {its : Rho → Res (List D)} {t : D → Rho → Res Rho} {tt : Rho → Res Bool} {fe : Rho → Res D} (hgk : Gok c G) (hG : i < G.length) (hc : X.calm = true) (hN : X.N.Nodup) (hy : X.N[i]? = some y) (hyl : X.env.scope.names.lookup y = some .local)
    (hsw : swapsWith (.ListComp elt [⟨tg, iter, ifs, 0⟩] scope pos) (some (.Name y py)) spos.line X.env = pure true) (hi : PI X tg iter (iD c G its)) (ok : BlkOk X.N X.env.scope scope own)
    (hg : ∀ (s : Shared) (H : Hp) (C : Addr) (cl : List (Str × Addr)) (fp : List Addr), PG (X.blk s H scope (compEnvC scope cl C X.env) fp) tg (gD c.calm G G' (own.map (·.2)) t)) (ht : ∀ (s : Shared) (H : Hp) (C : Addr) (cl : List (Str × Addr)) (fp : List Addr), PTs (X.blk s H scope (compEnvC scope cl C X.env) fp) ifs (tT c.calm G' tt))
    (he : ∀ (s : Shared) (H : Hp) (C : Addr) (cl : List (Str × Addr)) (fp : List Addr), PE (X.blk s H scope (compEnvC scope cl C X.env) fp) elt (tV c.calm G' fe)) (hs : ∀ x, foldedSetIterable iter X.env x = pure x := by intro _; rfl) :
    PS X (.Assign [.Name y py] (.ListComp elt [⟨tg, iter, ifs, 0⟩] scope pos) spos) (sD c L G (G.set i .o) (setF i (dLc its t tt fe (own.map (·.2))))) :=
  ps_imp (ps_setLc hc hN hy hyl hsw hi ok hg ht he hs) fun E σ H ⟨S0, H0, S, r, ok, p⟩ => lc_rd σ H _ (st_seq hgk ok p fun d v S1 H1 w1 o1 m1 p1 => by
    obtain ⟨q, ho, rfl, n, ns, hp, h⟩ := m1
    exact p1 _ S1 H1 (ok.setO w1 i hG n ns hp h))
theorem dt_nil : PTs X [] (tT c G dYes) := ⟨fun pins s σ H Q I ⟨S0, H0, S, r, ok, p⟩ => pts_nil.run pins s σ H Q I (p.go ok.ex _ rfl)⟩
theorem dt_one {cnd : Expr} {tt : Rho → Res Bool} (h : PT X cnd (tT c G tt)) : PTs X [cnd] (tT c G tt) := pts_one h
/-! ### while -/
def whileN (t : Rho → Res Bool) (F : Rho → SR) : Nat → Rho → SR
  | 0, _ => .bad
  | n + 1, r => liftS r (t r) fun b => if b = true then (match F r with
    | .nx r' => whileN t F n r'
    | .ct r' => whileN t F n r'
    | .bk r' => .nx r'
    | o => o) else .nx r
theorem ds_while {cnd : Expr} {body : List Stmt} {pos : Pos} {t : Rho → Res Bool} {F : Rho → SR} (n : Nat) (hg : Gok c G) (hp : PassesOwn (model X.prog X.w) X.A X.env X.xe) (hc : PT X cnd (tT c G t)) (hb : PSs X body (sD c G G G F)) :
    PS X (.While cnd body [] pos) (sD c L G G (whileN t F n)) := ps_imp (ps_while hp hc hb) fun E σ H ⟨S0, H0, S, r, ok, p⟩ => by
  refine ⟨fun m σ' H' => ∃ S' r', EnvOk c S0 H0 G S' H' σ' r' ∧ PostS c S0 H0 L G (whileN t F m r') E, ⟨n, S, r, ok, p⟩, ?_⟩
  rintro m σ1 H1 ⟨S1, r1, ok1, p1⟩
  cases m with
  | zero => exact p1.elim
  | succ m =>
    refine st_seq hg ok1 p1 fun b v S2 H2 w2 o2 m2 p2 => ?_
    rw [show v = b from m2]
    cases b with
    | false => exact p2 σ1 S2 H2 o2
    | true =>
      have p2 : PostS c S0 H0 L G (match F r1 with
        | .nx r' => whileN t F m r'
        | .ct r' => whileN t F m r'
        | .bk r' => .nx r'
        | o => o) E := p2
      rw [if_pos rfl]
      refine ⟨fun σ3 H3 => ∃ S3 r3, EnvOk c S0 H0 G S3 H3 σ3 r3 ∧ PostS c S0 H0 L G (whileN t F m r3) E, fun σ3 H3 h => ⟨m, Nat.lt_succ_self m, h⟩, S0, H0, S2, r1, o2, ?_⟩
      cases hF : F r1 with
      | nx r2 => rw [hF] at p2; exact fun σ4 S4 H4 e4 => ⟨S4, r2, e4, p2⟩
      | ct r2 => rw [hF] at p2; exact fun σ4 S4 H4 e4 => ⟨S4, r2, e4, p2⟩
      | bk r2 => rw [hF] at p2; exact fun σ4 S4 H4 e4 => p2 σ4 S4 H4 e4
      | rt d => rw [hF] at p2; exact p2
      | er r2 n ns vs => rw [hF] at p2; exact p2
      | bad => rw [hF] at p2; exact p2.elim
end

/-! ### what a def promises, by data -/
/-- the mode of its result: own, or a value -/
def mR (c : Cf) (rm : Bool) : Md V D := if rm then mO c else mV c
instance {c : Cf} {rm : Bool} : Anti (mR c rm) := by
  cases rm with
  | true => exact (inferInstance : Anti (mO c))
  | false => exact (inferInstance : Anti (mV c))
/-- F by data; ms the arguments' modes; rm whether the result is a new object that nothing else holds -/
def spD (K : PySem.W.Frag) (cm : CM) (ms : List Bool) (rm : Bool) (F : List D → Res D) : Sp := fun vs H Q E => ∃ S ds, Ex S H ∧ RpM ⟨K, cm, fun _ _ _ _ => False, none, rm⟩ S H ms vs ds ∧
  PostG ⟨K, cm, fun cls d _ H => E cls d H, none, rm⟩ [] S H (F ds) fun a S' H' => ∀ b, mR ⟨K, cm, fun _ _ _ _ => False, none, rm⟩ rm H S' H' b a → Q b H'
section
variable {X : Cx} {c : Cf} {L G G' : List Ow} {k : Nat} {f : Addr} {fd : FuncData} {ps : List Str} {x : Str} {p pos : Pos} {e : Expr} {es : List Expr} {fs : Rho → Res (List D)} {ms : List Bool} {rm : Bool} {F : List D → Res D}
theorem RpM.cf {c c' : Cf} {S H : Hp} (hK : c.K = c'.K) (hm : c.cm = c'.cm) : ∀ {ms : List Bool} {vs : List V} {ds : List D}, RpM c S H ms vs ds → RpM c' S H ms vs ds
  | [], [], [], _ => trivial
  | true :: ms, v :: vs, d :: ds, h => ⟨by rw [← hK, ← hm]; exact h.1, RpM.cf hK hm h.2⟩
  | false :: ms, v :: vs, d :: ds, h => ⟨by rw [← hK, ← hm]; exact h.1, RpM.cf hK hm h.2⟩
  | [], _ :: _, _, h => h.elim
  | [], [], _ :: _, h => h.elim
  | true :: _, [], _, h => h.elim
  | true :: _, _ :: _, [], h => h.elim
  | false :: _, [], _, h => h.elim
  | false :: _, _ :: _, [], h => h.elim
theorem call_rd {E : XK} {σ : St} {S H : Hp} {vs : List V} {ds : List D} {Q : VK} (hE : ∀ cls d H, c.W cls d σ H → E cls d H) (ex : Ex S H) (m : RpM c S H ms vs ds)
    (q : PostG c σ S H (F ds) fun a S' H' => ∀ b, mR c rm H S' H' b a → Q b H') : spD c.K c.cm ms rm F vs H Q E := by
  refine ⟨S, ds, ex, RpM.cf (c := c) (c' := ⟨c.K, c.cm, fun _ _ _ _ => False, none, rm⟩) rfl rfl m, ?_⟩
  cases hF : F ds with
  | ok a =>
    rw [hF] at q
    intro S' H' w b hb
    refine q S' H' w b ?_
    cases rm with
    | true => exact hb
    | false => exact hb
  | err n ns vs => rw [hF] at q; exact fun C dd S' H' fs h1 w h2 h3 h4 => hE _ _ _ (q C dd S' H' fs h1 w h2 h3 h4)
  | bad => rw [hF] at q; exact q.elim
/-- f(e, ..), f a def of the text -/
theorem de_call (F1 : FnOk X.prog X.w X.K X.mg X.base (L2.CX X.prog X.w) k f fd ps (spD c.K c.cm ms rm F)) (tk : Takes X c.W) (hr : Room k X.A) (hg : Gl X x) (hm : X.mg x = some (.ref f)) (hk : PySem.W.keepIn X.K (.ref f) = true) (hb : Binds X.K fd ps [])
    (ha : PA X (e :: es) (tM c G ms fs)) (hdb : (x == ("__debug__" : Str)) = false := by decide) (he : starEach (e :: es) X.env = (false, eval e X.env) :: starEach es X.env := by rfl) (hpl : (backTo pos (starEach es X.env)).any (·.1) = false := by rfl) :
    PE X (.Call (.Name x p) (e :: es) [] pos) (rd c G (dCall F fs) (mR c rm)) :=
  pe_imp (pe_callSD (E := fun σ cls d H => c.W cls d σ H) F1 hr hg hm hk hb .nil (fun σ => passAt tk σ) ha hdb he hpl) fun σ H Q ⟨S0, H0, S, r, ok, q⟩ => rd_seq ok q fun ds vs S1 H1 w1 o1 m1 p1 => by
    rw [List.append_nil]
    exact call_rd (fun _ _ _ h => h) o1.ex m1 (p1.anti w1.h)
theorem de_callV (F1 : FnOk X.prog X.w X.K X.mg X.base (L2.CX X.prog X.w) k f fd ps (spD c.K c.cm ms false F)) (tk : Takes X c.W) (hr : Room k X.A) (hg : Gl X x) (hm : X.mg x = some (.ref f)) (hk : PySem.W.keepIn X.K (.ref f) = true) (hb : Binds X.K fd ps [])
    (ha : PA X (e :: es) (tM c G ms fs)) (hdb : (x == ("__debug__" : Str)) = false := by decide) (he : starEach (e :: es) X.env = (false, eval e X.env) :: starEach es X.env := by rfl) (hpl : (backTo pos (starEach es X.env)).any (·.1) = false := by rfl) :
    PE X (.Call (.Name x p) (e :: es) [] pos) (tV c G (dCall F fs)) := de_call F1 tk hr hg hm hk hb ha hdb he hpl
theorem de_callO (F1 : FnOk X.prog X.w X.K X.mg X.base (L2.CX X.prog X.w) k f fd ps (spD c.K c.cm ms true F)) (tk : Takes X c.W) (hr : Room k X.A) (hg : Gl X x) (hm : X.mg x = some (.ref f)) (hk : PySem.W.keepIn X.K (.ref f) = true) (hb : Binds X.K fd ps [])
    (ha : PA X (e :: es) (tM c G ms fs)) (hdb : (x == ("__debug__" : Str)) = false := by decide) (he : starEach (e :: es) X.env = (false, eval e X.env) :: starEach es X.env := by rfl) (hpl : (backTo pos (starEach es X.env)).any (·.1) = false := by rfl) :
    PE X (.Call (.Name x p) (e :: es) [] pos) (tO c G (dCall F fs)) := de_call F1 tk hr hg hm hk hb ha hdb he hpl
/-! ### a def by its body -/
def startR (n : Nat) (ds : List D) : Rho := ds.map some ++ List.replicate (n - ds.length) none
def G0 (ms : List Bool) (n : Nat) : List Ow := ms.map (fun m => if m then .b else .v) ++ List.replicate (n - ms.length) .v
def runF (n : Nat) (rm : Bool) (Fb : Rho → SR) (ds : List D) : Res D := match Fb (startR n ds) with
  | .rt d => .ok d
  | .nx _ => if rm then .bad else .ok .non
  | .er _ n ns vs => .err n ns vs
  | _ => .bad
theorem RpM.get {S H : Hp} : ∀ {ms : List Bool} {vs : List V} {ds : List D} {i : Nat} {d : D}, RpM c S H ms vs ds → ds[i]? = some d → ∃ v m, vs[i]? = some v ∧ ms[i]? = some m ∧ SlotOk c H S H (if m then .b else .v) v d
  | [], [], [], _, _, _, h => by simp at h
  | true :: ms, v :: vs, d :: ds, 0, e, h, q => by simp at q; subst q; exact ⟨v, true, by simp, by simp, h.1⟩
  | false :: ms, v :: vs, d :: ds, 0, e, h, q => by simp at q; subst q; exact ⟨v, false, by simp, by simp, h.1⟩
  | true :: ms, v :: vs, d :: ds, i + 1, e, h, q => by
    obtain ⟨v, m, h1, h2, h3⟩ := RpM.get (i := i) h.2 (by simpa using q)
    exact ⟨v, m, by simpa using h1, by simpa using h2, h3⟩
  | false :: ms, v :: vs, d :: ds, i + 1, e, h, q => by
    obtain ⟨v, m, h1, h2, h3⟩ := RpM.get (i := i) h.2 (by simpa using q)
    exact ⟨v, m, by simpa using h1, by simpa using h2, h3⟩
  | [], _ :: _, _, _, _, h, _ => h.elim
  | [], [], _ :: _, _, _, h, _ => h.elim
  | true :: _, [], _, _, _, h, _ => h.elim
  | true :: _, _ :: _, [], _, _, h, _ => h.elim
  | false :: _, [], _, _, _, h, _ => h.elim
  | false :: _, _ :: _, [], _, _, h, _ => h.elim
theorem RpM.len {S H : Hp} : ∀ {ms : List Bool} {vs : List V} {ds : List D}, RpM c S H ms vs ds → vs.length = ms.length ∧ ds.length = ms.length
  | [], [], [], _ => ⟨rfl, rfl⟩
  | true :: ms, v :: vs, d :: ds, h => by have := RpM.len h.2; simp [this.1, this.2]
  | false :: ms, v :: vs, d :: ds, h => by have := RpM.len h.2; simp [this.1, this.2]
  | [], _ :: _, _, h => h.elim
  | [], [], _ :: _, h => h.elim
  | true :: _, [], _, h => h.elim
  | true :: _, _ :: _, [], h => h.elim
  | false :: _, [], _, h => h.elim
  | false :: _, _ :: _, [], h => h.elim
theorem kd_G0 {ms : List Bool} {n i : Nat} : kd (G0 ms n) i ≠ .o := by
  unfold kd G0
  rw [List.getD_eq_getElem?_getD, List.getElem?_append]
  split
  · rw [List.getElem?_map]
    cases ms[i]? with
    | none => intro h; cases h
    | some m => cases m <;> (intro h; cases h)
  · rw [List.getElem?_replicate]
    split <;> (intro h; cases h)
theorem kd_G0_at {ms : List Bool} {n i : Nat} {m : Bool} (h : ms[i]? = some m) : kd (G0 ms n) i = if m then .b else .v := by
  unfold kd G0
  have hl : i < ms.length := (List.getElem?_eq_some_iff.mp h).1
  rw [List.getD_eq_getElem?_getD, List.getElem?_append, if_pos (by simpa using hl), List.getElem?_map, h]
  rfl
theorem startR_some {n i : Nat} {ds : List D} {d : D} (h : (startR n ds)[i]? = some (some d)) : ds[i]? = some d := by
  unfold startR at h
  rw [List.getElem?_append] at h
  split at h
  · rw [List.getElem?_map] at h
    cases q : ds[i]? with
    | none => rw [q] at h; cases h
    | some e => rw [q] at h; cases h; rfl
  · rw [List.getElem?_replicate] at h
    split at h <;> cases h
theorem env_start {N : List Str} {S H : Hp} {vs : List V} {ds : List D} (ex : Ex S H) (m : RpM c S H ms vs ds) (hn : ms.length ≤ N.length) : EnvOk c S H (G0 ms N.length) S H (L2.start N vs) (startR N.length ds) := by
  have hl := m.len
  refine ⟨Fwd.refl ex, by unfold L2.start startR; simp [hl.1, hl.2], fun i d h => ?_, fun i j d e p _ _ k _ _ _ => absurd k kd_G0⟩
  have hd := startR_some h
  obtain ⟨v, mm, h1, h2, h3⟩ := m.get hd
  refine ⟨v, ?_, by rw [kd_G0_at h2]; exact h3⟩
  unfold L2.start
  have hlt : i < vs.length := (List.getElem?_eq_some_iff.mp h1).1
  rw [List.getElem?_append, if_pos (by simpa using hlt), List.getElem?_map, h1]
  rfl
end
section
variable {P : Program} {w : World} {K : PySem.W.Frag} {mg : Str → Option Value} {base : Heap} {cm : CM}
abbrev cfE (K : PySem.W.Frag) (cm : CM) (rm : Bool) (E : XK) : Cf := ⟨K, cm, fun cls d _ H => E cls d H, none, rm⟩
/-- THE RULE for a def: its body by data -/
theorem dok {x qual : Str} {st : Stmt} {f : Addr} {fd : FuncData} {N ps : List Str} {k : Nat} {ms : List Bool} {rm : Bool} {G' : List Ow} {Fb : Rho → SR} (F : Fun K x qual st f fd) (S : FnScope N ps (defScope st)) (hm : ms.length = ps.length) (hn : ps.length ≤ N.length)
    (hb : ∀ (cdv : Value) (A : Around) (outer : List Env) (s : Shared) (H : Hp) (E : XK), Room k (A.deeper (PyProof.Rows.envOfC qual (defScope st) s.heap.objs.size f cdv)) →
      PSs (cxOf (L2.CX P w) P w K mg base N qual (defScope st) f cdv A outer s H E) (defBody st) (sD (cfE K cm rm E) [] (G0 ms N.length) G' Fb)) :
    FnOk P w K mg base (L2.CX P w) (k + 1) f fd ps (spD K cm ms rm (runF N.length rm Fb)) := by
  refine F.okX S (fun vs H Q E h => ?_) (fun cdv A outer s H vs Q E hr h => ?_)
  · obtain ⟨S, ds, _, m, _⟩ := h
    rw [m.len.1, hm]
  · obtain ⟨S, ds, ex, m, q⟩ := h
    refine ⟨_, hb cdv A outer s H E hr, S, H, S, startR N.length ds, env_start ex (RpM.cf (c := ⟨K, cm, fun _ _ _ _ => False, none, rm⟩) (c' := cfE K cm rm E) rfl rfl m) (by omega), ?_⟩
    unfold runF at q
    cases hF : Fb (startR N.length ds) with
    | rt d =>
      rw [hF] at q
      show PostS _ _ _ _ _ (.rt d) _
      unfold PostS
      dsimp only
      cases rm with
      | true => exact fun p ho S' H' fw n ns hp hh => q S' H' fw _ ⟨p, ho, rfl, n, ns, hp, hh⟩
      | false => exact fun v S' H' fw hv => q S' H' fw v hv
    | nx r =>
      rw [hF] at q
      cases rm with
      | true => exact q.elim
      | false => exact fun σ' S' H' ok => q S' H' ok.fwd _ Rp.non
    | er r n ns vs =>
      rw [hF] at q
      exact fun C dd σ' S' H' fs h1 fw _ h2 h3 h4 => q C dd S' H' fs h1 fw h2 h3 h4
    | bk r => rw [hF] at q; exact q.elim
    | ct r => rw [hF] at q; exact q.elim
    | bad => rw [hF] at q; exact q.elim
end
end Dx

end S_DxF
section S_DxG
set_option Elab.async false
set_option linter.all false
set_option maxRecDepth 100000
set_option maxHeartbeats 2000000
/-! Dx, part G: raise, try, what is caught. -/
namespace Dx
open PySem L2

section
variable {X : Cx} {c : Cf} {L G G' : List Ow}
/-! ### an own exception class with one field, with two: its __init__ -/
def spX1 (K : PySem.W.Frag) (C : Addr) (f : Str) : Sp := fun vs H Q _ => ∃ (a : Addr) (w : V), vs = [.ref a, w] ∧ OexC K C ∧ PySem.W.findIn K (.ref C) f = some none ∧ H a = some (exo a C none) ∧
  ∀ d, H d = none → d ≠ a → Q .non (upd (upd H d (exd d [(f, w)])) a (exo a C (some d)))
def spX2 (K : PySem.W.Frag) (C : Addr) (f g : Str) : Sp := fun vs H Q _ => ∃ (a : Addr) (w u : V), vs = [.ref a, w, u] ∧ OexC K C ∧ PySem.W.findIn K (.ref C) f = some none ∧ PySem.W.findIn K (.ref C) g = some none ∧ H a = some (exo a C none) ∧
  ∀ d, H d = none → d ≠ a → Q .non (upd (upd (upd H d (exd d [(f, w)])) a (exo a C (some d))) d (exd d [(g, u), (f, w)]))
theorem xinit1 {P : Program} {w : World} {K : PySem.W.Frag} {mg : Str → Option Value} {base : Heap} {qual : Str} {st : Stmt} {fI C : Addr} {fd : FuncData} {N ps : List Str} {fl : Str} (F : Fun K "__init__" qual st fI fd) (S : FnScope N ps (defScope st)) (hl : ps.length = 2) (hN : N.length = 2)
    (hb : ∀ (cdv : Value) (A : Around) (outer : List Env) (s : Shared) (H : Hp) (E : XK), PSs (cxOf (L2.CX P w) P w K mg base N qual (defScope st) fI cdv A outer s H E) (defBody st) (tOst K fl (tVar 0) (tVar 1))) :
    FnOk P w K mg base (L2.CX P w) 1 fI fd ps (spX1 K C fl) := by
  refine F.okX (k := 0) S (fun vs H Q E h => ?_) (fun cdv A outer s H vs Q E hr h => ?_)
  · obtain ⟨a, w, rfl, _⟩ := h; exact hl.symm
  · obtain ⟨a, w', rfl, T, hno, ha, q⟩ := h
    refine ⟨_, hb cdv A outer s H E, ?_⟩
    have e : L2.start N [.ref a, w'] = [some (.ref a), some w'] := by unfold L2.start; rw [hN]; rfl
    rw [e]
    exact ⟨w', rfl, .ref a, rfl, a, C, rfl, T, hno, .inl ⟨ha, q⟩⟩
theorem xinit2 {P : Program} {w : World} {K : PySem.W.Frag} {mg : Str → Option Value} {base : Heap} {qual : Str} {st : Stmt} {fI C : Addr} {fd : FuncData} {N ps : List Str} {fl gl : Str} (F : Fun K "__init__" qual st fI fd) (S : FnScope N ps (defScope st)) (hl : ps.length = 3) (hN : N.length = 3)
    (hb : ∀ (cdv : Value) (A : Around) (outer : List Env) (s : Shared) (H : Hp) (E : XK), PSs (cxOf (L2.CX P w) P w K mg base N qual (defScope st) fI cdv A outer s H E) (defBody st) (tSeq (tOst K fl (tVar 0) (tVar 1)) (tOst K gl (tVar 0) (tVar 2)))) :
    FnOk P w K mg base (L2.CX P w) 1 fI fd ps (spX2 K C fl gl) := by
  refine F.okX (k := 0) S (fun vs H Q E h => ?_) (fun cdv A outer s H vs Q E hr h => ?_)
  · obtain ⟨a, w, u, rfl, _⟩ := h; exact hl.symm
  · obtain ⟨a, w', u, rfl, T, hno, hno2, ha, q⟩ := h
    refine ⟨_, hb cdv A outer s H E, ?_⟩
    have e : L2.start N [.ref a, w', u] = [some (.ref a), some w', some u] := by unfold L2.start; rw [hN]; rfl
    rw [e]
    refine ⟨w', rfl, .ref a, rfl, a, C, rfl, T, hno, .inl ⟨ha, fun d hd hne => ?_⟩⟩
    exact ⟨u, rfl, .ref a, rfl, a, C, rfl, T, hno2, .inr ⟨d, [(fl, w')], upd_same, by rw [upd_ne hne, upd_same], by show 1 ≤ 900; decide, q d hd hne⟩⟩
/-! ### raise X(e), raise X(e, e') -/
def raiF (n : Str) (ns : List Str) (rev : Bool) (fs : Rho → Res (List D)) : Rho → SR := fun r => liftS r (fs r) fun ds => if ds.length = ns.length then .er r n ns (if rev then ds.reverse else ds) else .bad
variable {e e2 : Expr} {fs : Rho → Res (List D)} {x n : Str} {C fI : Addr} {fd : FuncData} {ps : List Str} {p p' pos : Pos} {fl gl : Str}
theorem heap_x1 {H1 : Hp} {a d C : Addr} {o1 o2 o3 o4 o : HO} (ha : H1 a = none) (hne : d ≠ a) : upd (del (upd (upd (upd H1 a o1) d o2) a o3) a) d o = upd H1 d o := by
  funext b
  by_cases hb : b = d
  · subst hb; rw [upd_same, upd_same]
  · rw [upd_ne hb, upd_ne hb]
    by_cases hba : b = a
    · subst hba; rw [del_same, ha]
    · rw [del_ne hba, upd_ne hba, upd_ne hb, upd_ne hba]
theorem ds_raise1 (hg : Gok c G) (hcn : c.cm n = some C) (hc : X.calm = true) (tk : Takes X c.W) (T : OexC X.K C) (iC : PySem.W.findIn X.K (.ref C) "__init__" = some (some (.ref fI))) (tI : PySem.W.typeIn X.K (.ref fI) = some (.type "function")) (hno : PySem.W.findIn X.K (.ref C) fl = some none)
    (F1 : FnOk X.prog X.w X.K X.mg X.base (L2.CX X.prog X.w) 1 fI fd ps (spX1 X.K C fl)) (hr : Room 2 X.A) (hb : Binds X.K fd ps []) (hgx : Gl X x) (hm : X.mg x = some (.ref C)) (ha : PA X [e] (tAs c G fs))
    (hdb : (x == ("__debug__" : Str)) = false := by decide) (he : starEach [e] X.env = (false, eval e X.env) :: starEach [] X.env := by rfl) :
    PS X (.Raise (some (.Call (.Name x p) [e] [] p')) none pos) (sD c L G G' (raiF n [fl] false fs)) :=
  ps_imp (ps_raise hc tk (pmk_oex T iC tI F1 hr hb .nil passL hgx hm ha hdb he rfl)) fun E σ H ⟨S0, H0, S, r, ok, q⟩ => st_seq hg ok q fun ds vs S1 H1 w1 o1 m1 p1 => by
    obtain ⟨hl, p1⟩ := p1.ite
    match ds, vs, m1, hl with
    | [d1], [v1], .cons hv .nil, _ =>
      refine ⟨by show 1 ≤ 1000; decide, fun a na => ⟨a, v1, rfl, T, hno, upd_same, fun d hd hne => ⟨rfl, d, [(fl, v1)], upd_same, by rw [upd_ne hne, upd_same], by rw [upd_ne hne] at hd; exact hd, ?_⟩⟩⟩
      rw [upd_ne hne] at hd
      rw [heap_x1 (C := C) (o4 := .lst []) na hne]
      exact p1 C d σ (upd S1 d (.xd [(fl, v1)])) _ [(fl, v1)] hcn (o1.fwd.trans (Fwd.both o1.ex hd)) (fun g hgg => by rw [hg g hgg]; exact o1.go (Fwd.both o1.ex hd)) upd_same rfl (.cons (hv.mono (Ex.new (o1.ex.nn hd))) .nil)
theorem ds_raise2 (hg : Gok c G) (hcn : c.cm n = some C) (hc : X.calm = true) (tk : Takes X c.W) (T : OexC X.K C) (iC : PySem.W.findIn X.K (.ref C) "__init__" = some (some (.ref fI))) (tI : PySem.W.typeIn X.K (.ref fI) = some (.type "function")) (hno : PySem.W.findIn X.K (.ref C) fl = some none) (hno2 : PySem.W.findIn X.K (.ref C) gl = some none)
    (F1 : FnOk X.prog X.w X.K X.mg X.base (L2.CX X.prog X.w) 1 fI fd ps (spX2 X.K C fl gl)) (hr : Room 2 X.A) (hb : Binds X.K fd ps []) (hgx : Gl X x) (hm : X.mg x = some (.ref C)) (ha : PA X [e, e2] (tAs c G fs))
    (hdb : (x == ("__debug__" : Str)) = false := by decide) (he : starEach [e, e2] X.env = (false, eval e X.env) :: starEach [e2] X.env := by rfl) (hpl : (backTo p' (starEach [e2] X.env)).any (·.1) = false := by rfl) :
    PS X (.Raise (some (.Call (.Name x p) [e, e2] [] p')) none pos) (sD c L G G' (raiF n [gl, fl] true fs)) :=
  ps_imp (ps_raise hc tk (pmk_oex T iC tI F1 hr hb .nil passL hgx hm ha hdb he hpl)) fun E σ H ⟨S0, H0, S, r, ok, q⟩ => st_seq hg ok q fun ds vs S1 H1 w1 o1 m1 p1 => by
    obtain ⟨hl, p1⟩ := p1.ite
    match ds, vs, m1, hl with
    | [d1, d2], [v1, v2], .cons hv (.cons hu .nil), _ =>
      refine ⟨by show 2 ≤ 1000; decide, fun a na => ⟨a, v1, v2, rfl, T, hno, hno2, upd_same, fun d hd hne => ⟨rfl, d, [(gl, v2), (fl, v1)], by rw [upd_ne (Ne.symm hne), upd_same], upd_same, by rw [upd_ne hne] at hd; exact hd, ?_⟩⟩⟩
      rw [upd_ne hne] at hd
      have hh : ∀ (o1 o2 o3 o4 o : HO), upd (del (upd (upd (upd (upd H1 a o1) d o2) a o3) d o4) a) d o = upd H1 d o := fun o1 o2 o3 o4 o => by
        funext b
        by_cases hb : b = d
        · subst hb; rw [upd_same, upd_same]
        · rw [upd_ne hb, upd_ne hb]
          by_cases hba : b = a
          · subst hba; rw [del_same, na]
          · rw [del_ne hba, upd_ne hb, upd_ne hba, upd_ne hb, upd_ne hba]
      rw [hh]
      exact p1 C d σ (upd S1 d (.xd [(gl, v2), (fl, v1)])) _ [(gl, v2), (fl, v1)] hcn (o1.fwd.trans (Fwd.both o1.ex hd)) (fun g hgg => by rw [hg g hgg]; exact o1.go (Fwd.both o1.ex hd)) upd_same rfl (.cons (hu.mono (Ex.new (o1.ex.nn hd))) (.cons (hv.mono (Ex.new (o1.ex.nn hd))) .nil))
/-! ### try: .. except x as n: .. -/
def unsetS (i : Nat) : SR → SR
  | .nx r => .nx (r.set i none)
  | .bk r => .bk (r.set i none)
  | .ct r => .ct (r.set i none)
  | .er _ _ _ _ => .bad
  | o => o
def tryF (isM : Str → Option Bool) (i : Nat) (Fb Fs : Rho → SR) : Rho → SR := fun r => match Fb r with
  | .er r' n ns vs => match isM n with
    | some true => unsetS i (Fs (r'.set i (some (.obj n ns vs))))
    | some false => .er r' n ns vs
    | none => .bad
  | o => o
theorem EnvOk.unset {S0 H0 S H : Hp} {σ : St} {r : Rho} (e : EnvOk c S0 H0 G S H σ r) (i : Nat) : EnvOk c S0 H0 (G.set i .v) S H (σ.set i none) (r.set i none) := by
  refine ⟨e.fwd, by simp [e.len], fun j d h => ?_, fun j k d d' p hj hk kj kk sj sk => ?_⟩
  · rcases set_some h with ⟨_, z, _⟩ | ⟨ne, h⟩
    · cases z
    · obtain ⟨v, h1, h2⟩ := e.slot j d h
      exact ⟨v, by rw [List.getElem?_set_ne ne]; exact h1, by rw [kd_set_ne ne]; exact h2⟩
  · rcases set_some hj with ⟨_, z, _⟩ | ⟨nj, hj⟩
    · cases z
    · rcases set_some hk with ⟨_, z, _⟩ | ⟨nk, hk⟩
      · cases z
      · rw [kd_set_ne nj] at kj
        rw [kd_set_ne nk] at kk
        rw [List.getElem?_set_ne nj] at sj
        rw [List.getElem?_set_ne nk] at sk
        exact e.sep j k d d' p hj hk kj kk sj sk
/-- the slot of a caught exception -/
theorem EnvOk.setX {c' : Cf} {S0 H0 S H : Hp} {σ : St} {r : Rho} {a C dd : Addr} {n : Str} {ns : List Str} {vs : List D} {fs : List (Str × V)} (e : EnvOk c S0 H0 G S H σ r) (hK : c'.K = c.K) (hcm : c'.cm = c.cm) (i : Nat) (hi : i < G.length) (h1 : c.cm n = some C) (h2 : S dd = some (.xd fs)) (h3 : ns = fs.map (·.1)) (h4 : RpA c.K c.cm S (fs.map (·.2)) vs) :
    EnvOk c' S0 H0 (G.set i (.x a C dd)) S H (σ.set i (some (.ref a))) (r.set i (some (.obj n ns vs))) := by
  have sl : ∀ k v d, SlotOk c H0 S H k v d → SlotOk c' H0 S H k v d := fun k v d h => by
    cases k with
    | v => unfold SlotOk at h ⊢; rw [hK, hcm]; exact h
    | o => unfold SlotOk at h ⊢; rw [hK, hcm]; exact h
    | b => unfold SlotOk at h ⊢; rw [hK, hcm]; exact h
    | x a C dd => unfold SlotOk at h ⊢; rw [hK, hcm]; exact h
  refine ⟨e.fwd, by simp [e.len], fun j d h => ?_, fun j k d d' p hj hk kj kk sj sk => ?_⟩
  · rcases set_some h with ⟨rfl, z, hl⟩ | ⟨ne, h⟩
    · cases z
      refine ⟨.ref a, by rw [List.getElem?_set_self (by rw [e.len]; exact hl)], ?_⟩
      rw [kd_set_o hi]
      exact ⟨rfl, n, ns, vs, fs, rfl, by rw [hcm]; exact h1, h2, h3, by rw [hK, hcm]; exact h4⟩
    · obtain ⟨v, q1, q2⟩ := e.slot j d h
      exact ⟨v, by rw [List.getElem?_set_ne ne]; exact q1, by rw [kd_set_ne ne]; exact sl _ _ _ q2⟩
  · have nj : i ≠ j := fun z => by subst z; rw [kd_set_o hi] at kj; cases kj
    have nk : i ≠ k := fun z => by subst z; rw [kd_set_o hi] at kk; cases kk
    rw [List.getElem?_set_ne nj] at hj sj
    rw [List.getElem?_set_ne nk] at hk sk
    rw [kd_set_ne nj] at kj
    rw [kd_set_ne nk] at kk
    exact e.sep j k d d' p hj hk kj kk sj sk
/-- the kinds told ahead; what they are is the same whatever the wishes -/
theorem EnvOk.cf {c' : Cf} {S0 H0 S H : Hp} {σ : St} {r : Rho} (e : EnvOk c S0 H0 G S H σ r) (hK : c'.K = c.K) (hcm : c'.cm = c.cm) : EnvOk c' S0 H0 G S H σ r := by
  refine ⟨e.fwd, e.len, fun j d h => ?_, e.sep⟩
  obtain ⟨v, q1, q2⟩ := e.slot j d h
  refine ⟨v, q1, ?_⟩
  cases kj : kd G j with
  | v => rw [kj] at q2; unfold SlotOk at q2 ⊢; rw [hK, hcm]; exact q2
  | o => rw [kj] at q2; unfold SlotOk at q2 ⊢; rw [hK, hcm]; exact q2
  | b => rw [kj] at q2; unfold SlotOk at q2 ⊢; rw [hK, hcm]; exact q2
  | x a C dd => rw [kj] at q2; unfold SlotOk at q2 ⊢; rw [hK, hcm]; exact q2
abbrev Cf.try (c : Cf) (W : WX) (G : List Ow) : Cf := ⟨c.K, c.cm, W, some G, c.rm⟩
theorem ds_try {nm xn : Str} {cv : Value} {i : Nat} {body suite : List Stmt} {b0 : Stmt} {np p1 : Pos} {isM : Str → Option Bool} {Fb Fs : Rho → SR} {Gs : List Ow} (hge : Gok c G) (hs : X.stack = X.env :: X.outer) (hf : X.env.frame = some X.env.locals) (hN : X.N.Nodup) (hi : X.N[i]? = some nm) (hln : X.env.kindOf nm = some .local) (hc : Names X xn cv) (tk : Takes X c.W)
    (hG : i < G.length) (hM : ∀ n C b, c.cm n = some C → isM n = some b → PySem.W.exmOne X.K (.ref C) cv = some b)
    (hb : ∀ (W : WX) (pn : List (Addr × Obj)) (xe : Value → Shared → Prop), Takes (X.tr pn xe) W → PassesOwn (model X.prog X.w) X.A X.env xe → PSs (X.tr pn xe) body (sD (c.try W G) L G G' Fb))
    (hsu : ∀ (a C dd : Addr) (oe : Obj) (pn : List (Addr × Obj)), (∃ n, c.cm n = some C ∧ isM n = some true) → Zc (.ref C) (some dd) oe → (∃ vs, oe.data = .fields vs) → PSs (X.suite a ((a, oe) :: pn)) (b0 :: suite) (sD c.calm (L.set i (.x a C dd)) (G.set i (.x a C dd)) (Gs.set i (.x a C dd)) Fs))
    (hGs : Gs.set i .v = G') (hL : L.set i .v = L) :
    PS X (.Try body [.ExceptHandler (some (.Name xn np)) (some nm) (b0 :: suite) p1] [] [] pos) (sD c L G G' (tryF isM i Fb Fs)) := by
  refine ps_imp (ps_try_as (tb := fun W => sD (c.try W G) L G G' Fb) (ts := fun a cls d => fun E σ H => ∃ C dd, cls = .ref C ∧ d = some dd ∧ (∃ n, c.cm n = some C ∧ isM n = some true) ∧ sD c.calm (L.set i (.x a C dd)) (G.set i (.x a C dd)) (Gs.set i (.x a C dd)) Fs E σ H) hs hf hN hi hln hc tk hb ?_) ?_
  · intro a oe cls d pn hz hff
    refine ⟨fun pins s σ H E I ⟨C, dd, hC, hd, hin, q⟩ => ?_⟩
    subst hC hd
    exact (hsu a C dd oe pn hin hz hff).run pins s σ H E I q
  · rintro E σ H ⟨S0, H0, S, r, ok, p⟩
    refine ⟨S0, H0, S, r, ok.cf rfl rfl, ?_⟩
    unfold tryF at p
    cases hF : Fb r with
    | nx r' => rw [hF] at p; exact fun σ' S' H' e => p σ' S' H' (e.cf rfl rfl)
    | rt d => rw [hF] at p; exact p
    | bk r' => rw [hF] at p; exact fun σ' S' H' e => p σ' S' H' (e.cf rfl rfl)
    | ct r' => rw [hF] at p; exact fun σ' S' H' e => p σ' S' H' (e.cf rfl rfl)
    | bad => rw [hF] at p; exact p.elim
    | er r' n ns vs =>
      rw [hF] at p
      intro C dd σ' S' H' fs h1 fw h2 h3 h4 h5
      have e1 : EnvOk (c.try _ G) S0 H0 G S' H' σ' r' := h2 G rfl
      dsimp only at p
      cases hI : isM n with
      | none => rw [hI] at p; exact p.elim
      | some b =>
        rw [hI] at p
        refine ⟨b, hM n C b h1 hI, fun hb1 a ha => ?_, fun hb0 => ?_⟩
        · subst hb1
          refine ⟨C, dd, rfl, rfl, ⟨n, h1, hI⟩, S0, H0, S', _, e1.setX (c' := c.calm) (a := a) rfl rfl i hG h1 h3 h4 h5, ?_⟩
          have p : PostS c S0 H0 L G' (unsetS i (Fs (r'.set i (some (.obj n ns vs))))) E := p
          cases hS : Fs (r'.set i (some (.obj n ns vs))) with
          | nx r2 =>
            rw [hS] at p
            intro σ2 S2 H2 e2
            have := (EnvOk.cf (c' := c) e2 rfl rfl).unset i
            rw [List.set_set, hGs] at this
            exact p _ S2 H2 this
          | rt d => rw [hS] at p; exact p
          | bk r2 =>
            rw [hS] at p
            intro σ2 S2 H2 e2
            have := (EnvOk.cf (c' := c) e2 rfl rfl).unset i
            rw [List.set_set, hL] at this
            exact p _ S2 H2 this
          | ct r2 =>
            rw [hS] at p
            intro σ2 S2 H2 e2
            have := (EnvOk.cf (c' := c) e2 rfl rfl).unset i
            rw [List.set_set, hL] at this
            exact p _ S2 H2 this
          | er _ _ _ _ => rw [hS] at p; exact p.elim
          | bad => rw [hS] at p; exact p.elim
        · subst hb0
          exact p C dd σ' S' H' fs h1 fw (fun g hg => by rw [hge g hg]; exact EnvOk.cf (c' := c) e1 rfl rfl) h3 h4 h5
/-! ### in the suite: n.f, isinstance(n, T) -/
def lookF (ns : List Str) (vs : List D) (f : Str) : Option D := (ns.zip vs).lookup f
def dXf (i : Nat) (f : Str) : Rho → Res D := fun r => match r[i]? with
  | some (some (.obj _ ns vs)) => match lookF ns vs f with
    | some d => .ok d
    | none => .bad
  | _ => .bad
theorem look_rp {K : PySem.W.Frag} {cm : CM} {S : Hp} {f : Str} {d : D} : ∀ {fs : List (Str × V)} {vs : List D}, RpA K cm S (fs.map (·.2)) vs → lookF (fs.map (·.1)) vs f = some d → ∃ v, fs.lookup f = some v ∧ Rp K cm S v d
  | [], vs, h, q => by cases h; cases q
  | (g, u) :: fs, _, h, q => by
    cases h with | @cons _ _ d' ds hu hr =>
    unfold lookF at q
    rw [List.map_cons, List.zip_cons_cons, List.lookup_cons] at q
    rw [List.lookup_cons]
    by_cases hfg : (f == g) = true
    · rw [hfg] at q ⊢; cases q; exact ⟨u, rfl, hu⟩
    · have : (f == g) = false := by simpa using hfg
      rw [this] at q ⊢
      exact look_rp hr q
theorem de_xf {a C dd : Addr} {oe : Obj} {pn : List (Addr × Obj)} {i : Nat} {nm f : Str} {pn' : Pos} (T : XfC X.K C) (hno : PySem.W.findIn X.K (.ref C) f = some none) (k : kd G i = .x a C dd)
    (hz : Zc (.ref C) (some dd) oe) (hf : ∃ vs, oe.data = .fields vs) (he : PE (X.suite a ((a, oe) :: pn)) (.Name nm pn') (tVar i)) (hb : attributeBase (.Name nm pn') f X.env (eval (.Name nm pn') X.env) = eval (.Name nm pn') X.env := by rfl) :
    PE (X.suite a ((a, oe) :: pn)) (.Attribute (.Name nm pn') f pos) (tV c G (dXf i f)) := pe_imp (pe_xf T hno hz hf he hb) fun σ H Q ⟨S0, H0, S, r, ok, p⟩ => by
  unfold dXf at p
  split at p
  · rename_i n ns vs hr
    obtain ⟨v, h1, h2⟩ := ok.slot i _ hr
    rw [k] at h2
    obtain ⟨rfl, n', ns', ds', fs, z1, z2, z3, z4, z5⟩ := h2
    cases z1
    split at p
    · rename_i d hd
      rw [z4] at hd
      obtain ⟨u, q1, q2⟩ := look_rp z5 hd
      exact ⟨.ref a, h1, rfl, rfl, dd, fs, u, rfl, ok.ex _ _ z3, q1, p.here ok.ex q2⟩
    · exact p.elim
  · exact p.elim
/-- isinstance(e, c), e the exception that the suite holds -/
def rIsX (K : PySem.W.Frag) (C a dd : Addr) : List V → Hp → VK → Prop := fun xs H Q => ∃ (c : V) (cv : Value) (b : Bool) (fs : List (Str × V)), xs = [.ref a, c] ∧ (∀ u, RelV c u → u = cv) ∧ H dd = some (.xd fs) ∧ PySem.W.kitOne K (.ref C) cv = some b ∧ Q (.bl b) H
theorem call_isX {a C dd : Addr} {oe : Obj} {pn : List (Addr × Obj)} (T : ExcC X.K C) (hz : Zc (.ref C) (some dd) oe) (hf : ∃ vs, oe.data = .fields vs) : CallR (X.suite a ((a, oe) :: pn)) (.builtin "isinstance") (rIsX X.K C a dd) := by
  intro pins s σ H xs us Q I r h
  obtain ⟨cc, cv, b, fs, rfl, hcv, hdd, hk, q⟩ := h
  match us, r with
  | [u1, u2], .cons rx (.cons rt .nil) =>
    cases rx
    have ec := hcv _ rt
    subst ec
    have hpin := (I.pin (a, oe) (List.mem_append_left _ List.mem_cons_self)).1
    obtain ⟨vs, hv⟩ := hf
    have hx : ObjOk X.prog X.w H s.heap dd (.xd fs) := I.hok dd _ hdd
    obtain ⟨mA, hns, _⟩ := hx
    obtain ⟨od, ho, _⟩ := lookIn_ns hns
    have J : PySem.W.InstAt s.heap a oe C (some od) := ⟨hpin, hz.1, by unfold PySem.W.notCls; rw [hv], by rw [hz.2]; exact ho⟩
    have hcl : (PySem.W.clsIn X.K C).isSome = true := by
      have h1 := T.hd
      unfold PySem.W.hasDictIn at h1
      cases hc : PySem.W.clsIn X.K C with
      | none => rw [hc] at h1; cases h1
      | some _ => rfl
    exact PySem.W.kia_one (PySem.W.kitx_exc hcl T.hg T.hk T.hs T.ha T.hn T.ht T.hm) I.kIn J hk (fun z => nomatch z) fun tk => ⟨.bl b, H, I.kept (t' := tk) fun _ _ z => z, rfl, q⟩
/-- isM: which of the classes that are caught are of this class -/
def dIsX (isM : Str → Option Bool) (i : Nat) : Rho → Res D := fun r => match r[i]? with
  | some (some (.obj n _ _)) => match isM n with
    | some b => .ok (.bl b)
    | none => .bad
  | _ => .bad
theorem de_isX {a C dd : Addr} {oe : Obj} {pn : List (Addr × Obj)} {i : Nat} {nm xc : Str} {pn' pc : Pos} {isM : Str → Option Bool} {v : V} {cv : Value} (k : kd G i = .x a C dd) (T : ExcC X.K C) (hz : Zc (.ref C) (some dd) oe) (hf : ∃ vs, oe.data = .fields vs)
    (hcv : ∀ u, RelV v u → u = cv) (hM : ∀ n b, c.cm n = some C → isM n = some b → PySem.W.kitOne X.K (.ref C) cv = some b)
    (hm : X.mg "isinstance" = none) (hg : Gl X "isinstance") (hv : PE (X.suite a ((a, oe) :: pn)) (.Name nm pn') (tVar i)) (hT : PE (X.suite a ((a, oe) :: pn)) (.Name xc pc) (tC v))
    (hs1 : starEach [.Name nm pn', .Name xc pc] X.env = (false, eval (.Name nm pn') X.env) :: starEach [.Name xc pc] X.env := by rfl) (hs2 : starEach [.Name xc pc] X.env = (false, eval (.Name xc pc) X.env) :: starEach [] X.env := by rfl) (hpl : (backTo pos (starEach [.Name xc pc] X.env)).any (·.1) = false := by rfl) :
    PE (X.suite a ((a, oe) :: pn)) (.Call (.Name "isinstance" p) [.Name nm pn', .Name xc pc] [] pos) (tV c G (dIsX isM i)) := by
  refine pe_imp (pe_callB (call_isX T hz hf) hg hm (by decide +kernel) (pa_cons hv (pa_cons hT pa_nil hs2) hs1) (he := hs1) (hpl := hpl)) fun σ H Q ⟨S0, H0, S, r, ok, p⟩ => ?_
  unfold dIsX at p
  split at p
  · rename_i n ns vs hr
    obtain ⟨v', h1, h2⟩ := ok.slot i _ hr
    rw [k] at h2
    obtain ⟨rfl, n', ns', ds', fs, z1, z2, z3, z4, z5⟩ := h2
    cases z1
    split at p
    · rename_i b hb
      exact ⟨.ref a, h1, v, cv, b, fs, rfl, hcv, ok.ex _ _ z3, hM n b z2 hb, p.here ok.ex (.bl _)⟩
    · exact p.elim
  · exact p.elim
end
end Dx

end S_DxG
section S_DxT
set_option Elab.async false
set_option linter.all false
set_option maxRecDepth 100000
set_option maxHeartbeats 2000000
/-! Dx, part T: texts, truth, small things. -/
namespace Dx
open PySem L2
theorem gok0 {K : PySem.W.Frag} {cm : CM} {rm : Bool} {E : XK} {G : List Ow} : Gok (cfE K cm rm E) G := fun _ h => nomatch h
theorem gokC {c : Cf} {G : List Ow} : Gok c.calm G := fun _ h => nomatch h
theorem gokT {c : Cf} {W : WX} {G : List Ow} : Gok (c.try W G) G := fun _ h => (Option.some.inj h).symm
theorem hu65 {k : Nat} {A : Around} (hr : Room k A) : A.units + 65 < cLine := by have := hr.un; omega
theorem fnok_bad {P : Program} {w : World} {K : PySem.W.Frag} {mg : Str → Option Value} {base : Heap} {CX : CXT} {k : Nat} {f : Addr} {fd : FuncData} {ps : List Str} {cm : CM} {ms : List Bool} {rm : Bool} : FnOk P w K mg base CX k f fd ps (spD K cm ms rm fun _ => .bad) :=
  ⟨fun _ _ _ _ ⟨_, _, _, _, h⟩ => h.elim, fun _ _ _ _ _ _ _ _ _ _ _ _ _ ⟨_, _, _, _, h⟩ => h.elim⟩
theorem ints_rp {K : PySem.W.Frag} {cm : CM} {S : Hp} : ∀ ns : List Int, RpA K cm S (ns.map V.int) (ns.map D.int)
  | [] => .nil
  | n :: ns => .cons (.int n) (ints_rp ns)
theorem law_sp {K : PySem.W.Frag} {cm : CM} {F : List D → Res D} {ns : List Int} {H : Hp} {a : Addr} {Q : VK} {E : XK} (h : F [.fz (ns.map D.int)] = .ok (.bl true)) (hS : SqL K H a (ns.map V.int)) (k : ∀ H', Q (.bl true) H') : spD K cm [false] false F [.ref a] H Q E :=
  ⟨H, [.fz (ns.map D.int)], Ex.refl, ⟨.fz hS (ints_rp ns), trivial⟩, by
    rw [h]
    intro S' H' w b hb
    cases hb
    exact k H'⟩
theorem cx_never {P : Program} {w : World} {outer : List Env} {H : Hp} {s s' : Shared} {e : Value} (h : L2.CX P w outer H s (fun _ _ _ => False) e s') : False := by
  obtain ⟨_, _, _, _, _, _, _, _, _, _, _, _, hf⟩ := h
  exact hf
section
variable {X : Cx} {c : Cf} {L G G' : List Ow} {f f1 f2 : Rho → Res D} {o e : Expr} {pos apos : Pos}
/-! ### a text's methods -/
def asS : D → Res Str
  | .str s => .ok s
  | _ => .bad
def MtS (c : Cf) (R : Md V D) (r : V → List V → Hp → VK → Prop) (g : D → D → Res D) : Prop := ∀ (σ : St) (S H : Hp) (x y : V) (d e : D) (Q : VK), Ex S H → RpB c.K c.cm S H x d → RpB c.K c.cm S H y e →
  PostG c σ S H (g d e) (fun a S' H' => ∀ b, R H S' H' b a → Q b H') → r x [y] H Q
def dStr (g : D → D → Res D) (f1 f2 : Rho → Res D) : Rho → Res D := fun r => (f1 r).bind fun x => (asS x).bind fun _ => (f2 r).bind fun y => g x y
theorem de_m1 {R : Md V D} [Anti R] {id : String} {name : Str} {r : V → List V → Hp → VK → Prop} {g : D → D → Res D} (slot : Slot "str" name id) (ty : typeOf (.builtin id) = pure (.type "method_descriptor")) (rule : MtR X id r) (hs : MtS c R r g) (ho : PE X o (tR c G f1)) (he : PE X e (tR c G f2))
    (hst : starEach [e] X.env = [(false, eval e X.env)] := by rfl) (hbase : attributeBase o name X.env (eval o X.env) = eval o X.env := by rfl) (hline : (apos.endLine == pos.line) = true := by rfl) :
    PE X (.Call (.Attribute o name apos) [e] [] pos) (rd c G (dStr g f1 f2) R) := pe_imp (pe_m1 slot ty rule ho he hst hbase hline) fun σ H Q ⟨S0, H0, S, r, ok, p⟩ => rd_seq ok p fun x v S1 H1 w1 o1 m1 p1 => by
  cases x with
  | str z =>
    have hv := RpB.str m1
    exact ⟨⟨z, hv⟩, rd_seq o1 (show PostG c σ S1 H1 ((f2 r).bind fun y => g (.str z) y) _ from p1) fun y u S2 H2 w2 o2 m2 p2 => hs σ S2 H2 v u (.str z) y Q o2.ex (RpB.mono m1 w2.s w2.h) m2 (p2.anti (w1.h.trans w2.h))⟩
  | _ => exact p1.elim
def strsD (zs : List Str) : List D := zs.map .str
theorem strs_rp {K : PySem.W.Frag} {cm : CM} {S : Hp} : ∀ zs : List Str, RpA K cm S (zs.map V.str) (strsD zs)
  | [] => .nil
  | z :: zs => .cons (.str z) (strs_rp zs)
noncomputable def splitD : D → D → Res D
  | .str a, .str b => guard ((b.length == 0) = false ∧ a.length + 2 ≤ sizeLine) (.ok (.lst (strsD (Txt.split a b))))
  | _, _ => .bad
theorem ms_split : MtS c (mO c) (fun x xs H Q => ∃ a b, x = .str a ∧ xs = [.str b] ∧ (b.length == 0) = false ∧ a.length + 2 ≤ sizeLine ∧ rNewStrs (Txt.split a b) H Q) splitD := by
  intro σ S H x y d e Q ex hx hy p
  unfold splitD at p
  split at p
  · obtain ⟨hl, p⟩ := p.gd
    cases hx.str; cases hy.str
    exact ⟨_, _, rfl, rfl, hl.1, hl.2, fun q hq => p.kept ex hq (.lst (strs_rp _))⟩
  · exact p.elim
noncomputable def partD : D → D → Res D
  | .str a, .str b => guard ((b.length == 0) = false ∧ a.length ≤ sizeLine) (.ok (.tup [.str (Txt.partition a b).1, .str (Txt.partition a b).2.1, .str (Txt.partition a b).2.2]))
  | _, _ => .bad
theorem ms_part : MtS c (mV c) (fun x xs H Q => ∃ a b, x = .str a ∧ xs = [.str b] ∧ (b.length == 0) = false ∧ a.length ≤ sizeLine ∧
    ∀ p, H p = none → Q (.ref p) (upd H p (.tup [.str (Txt.partition a b).1, .str (Txt.partition a b).2.1, .str (Txt.partition a b).2.2]))) partD := by
  intro σ S H x y d e Q ex hx hy p
  unfold partD at p
  split at p
  · obtain ⟨hl, p⟩ := p.gd
    cases hx.str; cases hy.str
    exact ⟨_, _, rfl, rfl, hl.1, hl.2, fun q hq => p.laid ex hq (.tup (.inl (.inl upd_same)) (.cons (.str _) (.cons (.str _) (.cons (.str _) .nil))))⟩
  · exact p.elim
def startD : D → D → Res D
  | .str a, .str b => .ok (.bl (Txt.startswith a b))
  | _, _ => .bad
theorem ms_start : MtS c (mV c) (fun x xs H Q => ∃ a b, x = .str a ∧ xs = [.str b] ∧ Q (.bl (Txt.startswith a b)) H) startD := by
  intro σ S H x y d e Q ex hx hy p
  unfold startD at p
  split at p
  · cases hx.str; cases hy.str; exact ⟨_, _, rfl, rfl, p.here ex (.bl _)⟩
  · exact p.elim
def endD : D → D → Res D
  | .str a, .str b => .ok (.bl (Txt.endswith a b))
  | _, _ => .bad
theorem ms_end : MtS c (mV c) (fun x xs H Q => ∃ a b, x = .str a ∧ xs = [.str b] ∧ Q (.bl (Txt.endswith a b)) H) endD := by
  intro σ S H x y d e Q ex hx hy p
  unfold endD at p
  split at p
  · cases hx.str; cases hy.str; exact ⟨_, _, rfl, rfl, p.here ex (.bl _)⟩
  · exact p.elim
def findD : D → D → Res D
  | .str a, .str b => .ok (.int (Txt.find a b))
  | _, _ => .bad
theorem ms_find : MtS c (mV c) (fun x xs H Q => ∃ a b, x = .str a ∧ xs = [.str b] ∧ Q (.int (Txt.find a b)) H) findD := by
  intro σ S H x y d e Q ex hx hy p
  unfold findD at p
  split at p
  · cases hx.str; cases hy.str; exact ⟨_, _, rfl, rfl, p.here ex (.int _)⟩
  · exact p.elim
/-- the texts of a list or a tuple -/
def allStr : List D → Option (List Str)
  | [] => some []
  | .str z :: ds => (allStr ds).map (z :: ·)
  | _ :: _ => none
theorem allStr_rp {K : PySem.W.Frag} {cm : CM} {S : Hp} : ∀ {ds : List D} {vs : List V} {zs : List Str}, RpA K cm S vs ds → allStr ds = some zs → vs = zs.map V.str
  | [], _, _, h, q => by cases h; cases q; rfl
  | d :: ds, _, _, h, q => by
    cases h with | cons hd hr =>
    cases d with
    | str z =>
      rw [allStr] at q
      obtain ⟨zs, h1, rfl⟩ := Option.map_eq_some_iff.mp q
      cases hd
      rw [allStr_rp hr h1]; rfl
    | _ => cases q
noncomputable def joinZ (a : Str) : Option (List Str) → Res D
  | some zs => guard ((zs.map (·.length)).sum + zs.length * a.length ≤ 16777216) (.ok (.str (Txt.join a zs)))
  | none => .bad
noncomputable def joinD : D → D → Res D
  | .str a, d => (items d).bind fun ds => joinZ a (allStr ds)
  | _, _ => .bad
theorem ms_join (hK : c.K = X.K := by rfl) : MtS c (mV c) (fun x xs H Q => ∃ a p, ∃ ys : List Str, x = .str a ∧ xs = [.ref p] ∧ (SqL X.K H p (ys.map V.str) ∨ SqT X.K H p (ys.map V.str)) ∧
    (ys.map (·.length)).sum + ys.length * a.length ≤ 16777216 ∧ Q (.str (Txt.join a ys)) H) joinD := by
  intro σ S H x y d e Q ex hx hy p
  cases d with
  | str a =>
    cases hx.str
    have fin : ∀ ds, items e = .ok ds → ∃ zs, allStr ds = some zs ∧ (zs.map (·.length)).sum + zs.length * a.length ≤ 16777216 ∧ Q (.str (Txt.join a zs)) H := fun ds hds => by
      replace p : PostG c σ S H ((items e).bind fun ds => joinZ a (allStr ds)) (fun a S' H' => ∀ b, mV c H S' H' b a → Q b H') := p
      rw [hds] at p
      replace p : PostG c σ S H (joinZ a (allStr ds)) (fun a S' H' => ∀ b, mV c H S' H' b a → Q b H') := p
      cases hz : allStr ds with
      | none => rw [hz] at p; exact p.elim
      | some zs =>
        rw [hz] at p
        obtain ⟨hl, p⟩ := p.gd
        exact ⟨zs, rfl, hl, p.here ex (.str _)⟩
    rw [← hK]
    cases e with
    | lst ds =>
      obtain ⟨q, xs, rfl, a1, r1⟩ := hy.list ex
      obtain ⟨zs, h1, h2, h3⟩ := fin ds rfl
      have := allStr_rp r1 h1; subst this
      exact ⟨a, q, zs, rfl, rfl, .inl (.inl (.inl a1)), h2, h3⟩
    | fz ds =>
      obtain ⟨q, xs, rfl, a1, r1⟩ := hy.fz ex
      obtain ⟨zs, h1, h2, h3⟩ := fin ds rfl
      have := allStr_rp r1 h1; subst this
      exact ⟨a, q, zs, rfl, rfl, .inl a1, h2, h3⟩
    | tup ds =>
      obtain ⟨q, xs, rfl, a1, r1, s1⟩ := hy.tup ex
      obtain ⟨zs, h1, h2, h3⟩ := fin ds rfl
      have := allStr_rp r1 h1; subst this
      exact ⟨a, q, zs, rfl, rfl, .inr a1, h2, h3⟩
    | _ => exact p.elim
  | _ => exact p.elim
noncomputable def ordX : D → Res D
  | .str x => guard (x.length = 1) (.ok (.int (x.cps.getD 0 0 : Nat)))
  | _ => .bad
theorem cs_ord : CallS c (mV c) (fun xs H Q => ∃ x, xs = [.str x] ∧ x.length = 1 ∧ Q (.int (x.cps.getD 0 0 : Nat)) H) [true] (g1 ordX) := by
  intro σ S H vs ds Q ex m p
  obtain ⟨v, d, rfl, rfl, h⟩ := m.one
  cases d with
  | str z =>
    obtain ⟨hl, p⟩ := p.gd
    cases h.str; exact ⟨_, rfl, hl, p.here ex (.int _)⟩
  | _ => exact p.elim
/-! ### f'..' -/
noncomputable def fmtD : D → Res D
  | .str y => guard (y.length ≤ sizeLine) (.ok (.str y))
  | .int i => guard (i.natAbs.log2 < 1920) (.ok (.str (toString i)))
  | _ => .bad
theorem de_fmt (he : PE X e (tV c G f)) : PE X (.FormattedValue e (-1) none pos) (tV c G (dUn fmtD f)) := pe_imp (pe_fmt he) fun σ H Q ⟨S0, H0, S, r, ok, p⟩ => rd_seq ok p fun d v S1 H1 w1 o1 m1 p1 => by
  cases d with
  | str y =>
    obtain ⟨hl, p1⟩ := p1.gd
    cases m1; exact .inl ⟨y, rfl, hl, p1.go o1.ex _ (.str _)⟩
  | int i =>
    obtain ⟨hl, p1⟩ := p1.gd
    cases m1; exact .inr ⟨i, rfl, hl, p1.go o1.ex _ (.str _)⟩
  | _ => exact p1.elim
def dJnil : Str → Rho → Res D := fun acc _ => .ok (.str acc)
noncomputable def dJcons (f : Rho → Res D) (g : Str → Rho → Res D) : Str → Rho → Res D := fun acc r => (f r).bind fun d => (asS d).bind fun y => guard ((acc ++ y).length ≤ sizeLine) (g (acc ++ y) r)
def dJoin (g : Str → Rho → Res D) : Rho → Res D := g Str.empty
/-- the parts by data -/
def PJd (X : Cx) (c : Cf) (G : List Ow) (es : List Expr) (g : Str → Rho → Res D) : Prop := ∃ ts, PJ X es ts ∧ ∀ acc σ H Q, rd c G (g acc) (mV c) σ H Q → tJs ts acc σ H fun out H1 => Q (.str out) H1
theorem dj_nil : PJd X c G [] dJnil := ⟨[], .nil, fun acc σ H Q ⟨S0, H0, S, r, ok, p⟩ => p.here ok.ex (.str _)⟩
theorem dj_cons {es : List Expr} {g : Str → Rho → Res D} (he : PE X e (tV c G f)) (hr : PJd X c G es g) : PJd X c G (e :: es) (dJcons f g) := by
  obtain ⟨ts, h1, h2⟩ := hr
  refine ⟨_, .cons he h1, fun acc σ H Q ⟨S0, H0, S, r, ok, p⟩ => rd_seq ok p fun d v S1 H1 w1 o1 m1 p1 => ?_⟩
  cases d with
  | str y =>
    cases m1
    have p1 : PostG c σ S1 H1 (guard ((acc ++ y).length ≤ sizeLine) (g (acc ++ y) r)) _ := p1
    obtain ⟨hl, p1⟩ := p1.gd
    exact ⟨y, rfl, hl, h2 _ σ H1 Q ⟨S0, H0, S1, r, o1, p1⟩⟩
  | _ => exact p1.elim
theorem de_join {v1 v2 : Expr} {rest : List Expr} {g : Str → Rho → Res D} (h : PJd X c G (v1 :: v2 :: rest) g) : PE X (.JoinedStr (v1 :: v2 :: rest) pos) (tV c G (dJoin g)) := by
  obtain ⟨ts, h1, h2⟩ := h
  exact pe_imp (pe_joined h1) fun σ H Q q => h2 _ σ H Q q
/-! ### truth -/
noncomputable def truB : D → Res Bool
  | .non => .ok false
  | .bl b => .ok b
  | .int i => .ok (i != 0)
  | .str y => guard (y.length ≤ sizeLine) (.ok ((y.length : Int) != 0))
  | .lst ds => .ok (!ds.isEmpty)
  | .fz ds => .ok (!ds.isEmpty)
  | .tup ds => .ok (!ds.isEmpty)
  | _ => .bad
noncomputable def dTru (f : Rho → Res D) : Rho → Res Bool := fun r => (f r).bind truB
theorem RpA.empty {K : PySem.W.Frag} {cm : CM} {S : Hp} {vs : List V} {ds : List D} (h : RpA K cm S vs ds) : (!ds.isEmpty) = !vs.isEmpty := by cases h <;> rfl
theorem dt_tru (he : PE X e (tR c G f)) (hw : ∀ whole, isTrue e X.env whole = (do let v ← whole; standAt e.pos; holding [v] (truthy v))) (hK : c.K = X.K := by rfl) : PT X e (tT c G (dTru f)) :=
  pt_imp (pt_truth he hw) fun σ H Q ⟨S0, H0, S, r, ok, p⟩ => rd_seq ok p fun d v S1 H1 w1 o1 m1 p1 => by
    rw [← hK]
    cases d with
    | non => cases RpB.non m1; exact ⟨_, rfl, p1.go o1.ex _ rfl⟩
    | bl b => cases RpB.bl m1; exact ⟨_, rfl, p1.go o1.ex _ rfl⟩
    | int i => cases RpB.int m1; exact ⟨_, rfl, p1.go o1.ex _ rfl⟩
    | str y =>
      cases RpB.str m1
      obtain ⟨hl, p1⟩ := p1.gd
      exact ⟨_, ⟨hl, rfl⟩, p1.go o1.ex _ rfl⟩
    | lst ds => obtain ⟨q, xs, rfl, a1, r1⟩ := RpB.list m1 o1.ex; exact ⟨_, .inl ⟨xs, .inl (.inl a1), r1.empty⟩, p1.go o1.ex _ rfl⟩
    | fz ds => obtain ⟨q, xs, rfl, a1, r1⟩ := RpB.fz m1 o1.ex; exact ⟨_, .inl ⟨xs, a1, r1.empty⟩, p1.go o1.ex _ rfl⟩
    | tup ds => obtain ⟨q, xs, rfl, a1, r1, s1⟩ := RpB.tup m1 o1.ex; exact ⟨_, .inr (.inl ⟨xs, a1, r1.empty⟩), p1.go o1.ex _ rfl⟩
    | _ => exact p1.elim
/-! ### x op= e -/
def augF (i : Nat) (g : D → D → Res D) (f : Rho → Res D) : Rho → SR := fun r => liftS r (dVar i r) fun x => liftS r (f r) fun y => liftS r (g x y) fun z => .nx (r.set i (some z))
theorem ds_aug (i : Nat) {x : Str} {op : Operator} {g : Int → Int → Int} {pos' : Pos} (hg : Gok c G) (k : kd G i = .v) (hN : X.N.Nodup) (hi : X.N[i]? = some x) (hx : Loc X.env.scope x) (he : PE X e (tV c G f)) (ho : PIp X op (ipI g)) (hf : X.fn x = true ∨ X.env.scope.names.lookup x = some .local := by first | exact .inl rfl | exact .inr rfl | assumption) :
    PS X (.AugAssign (.Name x pos') op e pos) (sD c L G (G.set i .v) (augF i (intsD g) f)) := ps_imp (ps_aug hN hi hx he ho hf) fun E σ H ⟨S0, H0, S, r, ok, p⟩ => by
  unfold augF dVar at p
  split at p
  · rename_i d hd
    obtain ⟨v, h1, h2⟩ := ok.slot i d hd
    rw [k] at h2
    refine ⟨v, h1, st_seq hg ok p fun y u S1 H1 w1 o1 m1 p1 => ?_⟩
    cases d with
    | int a =>
      cases y with
      | int b => cases h2; cases m1; exact ⟨a, b, rfl, rfl, p1 _ S1 H1 (o1.setV i (.int _))⟩
      | _ => exact p1.elim
    | _ => exact p1.elim
  · exact p.elim
end
end Dx

end S_DxT
section S_P_data
set_option Elab.async false
set_option linter.all false
set_option maxRecDepth 100000
namespace Lk
open PySem L2 Dx
noncomputable section
def isM_BadCommand : Str → Option Bool := fun n => if n = "BadValue" then some false else none
def isM_BadPattern : Str → Option Bool := fun n => if n = "BadValue" then some false else none
def isM_BadValue : Str → Option Bool := fun n => if n = "BadValue" then some true else none
def isM_LaidError : Str → Option Bool := fun n => if n = "BadValue" then some true else none
def isM_ValueError : Str → Option Bool := fun n => if n = "BadValue" then some true else none

def Lp_digits_value_1 : Rho → SR := (ifF (dT (dOp ninD (dVar 1) (dC (.str "0123456789")))) (retF (dC .non)) .nx)
def Fb_digits_value : Rho → SR := (seqF (ifF (dOr (dT (dOp eqD (dVar 0) (dC (.str "")))) (dT (dOp gtD (dCall (g1 lenD) (dCons (dVar 0) dNil)) (dC (.int 12))))) (retF (dC .non)) .nx) (seqF (forF (dIt itemsS (dVar 0)) (tgN 1) Lp_digits_value_1) (seqF (ifF (dAnd (dT (dOp gtD (dCall (g1 lenD) (dCons (dVar 0) dNil)) (dC (.int 1)))) (dT (dOp eqD (dOp ixD (dVar 0) (dC (.int 0))) (dC (.str "0"))))) (retF (dC .non)) .nx) (retF (dCall (g1 intD) (dCons (dVar 0) dNil))))))
def F_digits_value : List D → Res D := runF 2 false Fb_digits_value

def Fb_write_place : Rho → SR := (seqF (ifF (dT (dOp eqD (dCall (g1 lenD) (dCons (dVar 0) dNil)) (dC (.int 0)))) (retF (dC (.str "root"))) .nx) (retF (dStr joinD (dC (.str ".")) (dLc (dIt itemsT (dVar 0)) (tgN 1) dYes (dCall (g1 strD) (dCons (dVar 1) dNil)) [1]))))
def F_write_place : List D → Res D := runF 2 false Fb_write_place

def Lp_read_place_1 : Rho → SR := (seqF (setF 3 (dCall F_digits_value (dCons (dVar 2) dNil))) (seqF (ifF (dT (dOp (isD false) (dVar 3) (dC .non))) (raiF "BadValue" ["text"] false (dCons (dVar 0) dNil)) .nx) (appF 1 (dVar 3))))
def Fb_read_place : Rho → SR := (seqF (ifF (dT (dOp eqD (dVar 0) (dC (.str "root")))) (retF (dTup dNil)) .nx) (seqF (setF 1 (dLst dNil)) (seqF (forF (dIt itemsL (dStr splitD (dVar 0) (dC (.str ".")))) (tgN 2) Lp_read_place_1) (seqF (ifF (dT (dOp gtD (dCall (g1 lenD) (dCons (dVar 1) dNil)) (dC (.int 12)))) (raiF "BadValue" ["text"] false (dCons (dVar 0) dNil)) .nx) (retF (dCall (g1 tupleD) (dCons (dVar 1) dNil)))))))
def F_read_place : List D → Res D := runF 4 false Fb_read_place

def Lp_write_laying_1 : Rho → SR := (ifF (dT (dOp (isD false) (dVar 3) (dC .non))) (appF 1 (dCall (g1 strD) (dCons (dVar 2) dNil))) (appF 1 (dJoin (dJcons (dUn fmtD (dVar 2)) (dJcons (dC (.str " column ")) (dJcons (dUn fmtD (dVar 3)) dJnil))))))
def Fb_write_laying : Rho → SR := (seqF (setF 1 (dLst dNil)) (seqF (forF (dIt itemsT (dVar 0)) (tgT 2 (tgCons (tgN 2) (tgCons (tgN 3) tgNil))) Lp_write_laying_1) (retF (dVar 1))))
def F_write_laying : List D → Res D := runF 4 true Fb_write_laying

def Fb_l_cell : Rho → SR := (seqF (ifF (dT (dOp ltD (dVar 1) (dCall (g1 lenD) (dCons (dVar 0) dNil)))) (retF (dCall (g1 intD) (dCons (dOp ixD (dVar 0) (dVar 1)) dNil))) .nx) (retF (dC (.int 0))))
def F_l_cell : List D → Res D := runF 2 false Fb_l_cell

def Lp_l_row_1 : Rho → SR := (seqF (appF 2 (dOp modD (dCall (g1 intD) (dCons (dVar 3) dNil)) (dVar 4))) (setF 3 (dOp fdivD (dVar 3) (dVar 4))))
def Lp_l_row_2 : Rho → SR := (seqF (setF 6 (dOp modD (dCall (g1 intD) (dCons (dOp addD (dOp addD (dOp mulD (dVar 0) (dC (.int 48271))) (dOp mulD (dVar 5) (dC (.int 69621)))) (dC (.int 11))) dNil)) (dC (.int 2147483647)))) (seqF (setF 6 (dOp modD (dCall (g1 intD) (dCons (dOp addD (dOp addD (dOp mulD (dVar 6) (dOp addD (dC (.int 16807)) (dOp mulD (dC (.int 2)) (dVar 5)))) (dOp mulD (dOp mulD (dVar 5) (dVar 5)) (dC (.int 40692)))) (dC (.int 7))) dNil)) (dC (.int 2147483399)))) (appF 2 (dOp modD (dCall (g1 intD) (dCons (dOp fdivD (dVar 6) (dC (.int 31))) dNil)) (dOp ixD (dVar 1) (dVar 5))))))
def Fb_l_row : Rho → SR := (seqF (setF 2 (dLst dNil)) (seqF (ifF (dT (dOp geD (dVar 0) (dC (.int 1000000000000000000)))) (seqF (setF 3 (dOp subD (dVar 0) (dC (.int 1000000000000000000)))) (seqF (forF (dIt itemsL (dVar 1)) (tgN 4) Lp_l_row_1) (retF (dVar 2)))) .nx) (seqF (forF (dIts rng1 (dCons (dCall (g1 lenD) (dCons (dVar 1) dNil)) dNil)) (tgN 5) Lp_l_row_2) (retF (dVar 2)))))
def F_l_row : List D → Res D := runF 7 false Fb_l_row

def Lp_l_same_1 (Fself : List D → Res D) : Rho → SR := (ifF (dNot (dT (dCall Fself (dCons (dOp ixD (dVar 0) (dVar 2)) (dCons (dOp ixD (dVar 1) (dVar 2)) dNil))))) (retF (dC (.bl false))) .nx)
def Fb_l_same (Fself : List D → Res D) : Rho → SR := (seqF (ifF (dT (dOp (isD false) (dVar 1) (dC .non))) (retF (dOp (isD false) (dVar 0) (dC .non))) .nx) (seqF (ifF (dT (dUn (isiD "bool") (dVar 1))) (retF (dAndV (dUn (isiD "bool") (dVar 0)) (dOp eqD (dVar 0) (dVar 1)))) .nx) (seqF (ifF (dT (dUn (isiD "int") (dVar 1))) (retF (dAndV (dUn (isiD "int") (dVar 0)) (dAndV (dNotV (dUn (isiD "bool") (dVar 0))) (dOp eqD (dVar 0) (dVar 1))))) .nx) (seqF (ifF (dT (dUn (isiD "str") (dVar 1))) (retF (dAndV (dUn (isiD "str") (dVar 0)) (dOp eqD (dVar 0) (dVar 1)))) .nx) (seqF (ifF (dAnd (dT (dUn (isiD "tuple") (dVar 1))) (dNot (dT (dUn (isiD "tuple") (dVar 0))))) (retF (dC (.bl false))) .nx) (seqF (ifF (dAnd (dT (dUn (isiD "list") (dVar 1))) (dNot (dT (dUn (isiD "list") (dVar 0))))) (retF (dC (.bl false))) .nx) (seqF (ifF (dOr (dT (dUn (isiD "tuple") (dVar 1))) (dT (dUn (isiD "list") (dVar 1)))) (seqF (ifF (dT (dOp neD (dCall (g1 lenD) (dCons (dVar 0) dNil)) (dCall (g1 lenD) (dCons (dVar 1) dNil)))) (retF (dC (.bl false))) .nx) (seqF (forF (dIts rng1 (dCons (dCall (g1 lenD) (dCons (dVar 1) dNil)) dNil)) (tgN 2) (Lp_l_same_1 Fself)) (retF (dC (.bl true))))) .nx) (retF (dC (.bl false))))))))))
def F_l_same : Nat → List D → Res D
  | 0 => fun _ => .bad
  | n + 1 => runF 3 false (Fb_l_same (F_l_same n))

def Fb_l_index : Rho → SR := (seqF (ifF (dT (dOp eqD (dVar 0) (dC (.int 0)))) (retF (dC (.int 0))) .nx) (seqF (ifF (dT (dOp eqD (dVar 0) (dC (.int 1)))) (retF (dOp modD (dCall (g1 intD) (dCons (dVar 1) dNil)) (dC (.int 10)))) .nx) (seqF (ifF (dT (dOp eqD (dVar 0) (dC (.int 2)))) (retF (dC (.int 10))) .nx) (seqF (ifF (dT (dOp eqD (dVar 0) (dC (.int 3)))) (retF (dOp subD (dC (.int 999999999999)) (dOp modD (dCall (g1 intD) (dCons (dVar 1) dNil)) (dC (.int 3))))) .nx) (seqF (ifF (dT (dOp eqD (dVar 0) (dC (.int 4)))) (retF (dOp modD (dCall (g1 intD) (dCons (dVar 1) dNil)) (dC (.int 60)))) .nx) (retF (dVar 1)))))))
def F_l_index : List D → Res D := runF 2 false Fb_l_index

def Lp_l_drawn_1 : Rho → SR := (setF 2 (dOp addD (dVar 2) (dLst (dCons (dC (.int 6)) (dCons (dC (.int 1000000000000)) dNil)))))
def Fb_l_drawn : Rho → SR := (seqF (setF 2 (dLst (dCons (dOp addD (dVar 1) (dC (.int 1))) dNil))) (seqF (forF (dIts rng1 (dCons (dVar 1) dNil)) (tgN 3) Lp_l_drawn_1) (seqF (setF 4 (dCall F_l_row (dCons (dVar 0) (dCons (dVar 2) dNil)))) (retF (dCall (g1 tupleD) (dCons (dLc (dIts rng1 (dCons (dOp ixD (dVar 4) (dC (.int 0))) dNil)) (tgN 3) dYes (dCall F_l_index (dCons (dOp ixD (dVar 4) (dOp addD (dOp mulD (dC (.int 2)) (dVar 3)) (dC (.int 1)))) (dCons (dOp ixD (dVar 4) (dOp addD (dOp mulD (dC (.int 2)) (dVar 3)) (dC (.int 2)))) dNil))) [3]) dNil))))))
def F_l_drawn : List D → Res D := runF 5 false Fb_l_drawn

def Fb_l_written : Rho → SR := (seqF (ifF (dT (dOp eqD (dVar 0) (dTup dNil))) (retF (dC (.str "root"))) .nx) (retF (dStr joinD (dC (.str ".")) (dLc (dIt itemsT (dVar 0)) (tgN 1) dYes (dCall (g1 strD) (dCons (dVar 1) dNil)) [1]))))
def F_l_written : List D → Res D := runF 2 false Fb_l_written

def Lp_l_place_1 : Rho → SR := (ifF (dT (dOp ninD (dVar 3) (dC (.str "0123456789")))) (retF (dC .non)) .nx)
def Lp_l_place_2 : Rho → SR := (seqF (ifF (dOr (dT (dOp eqD (dVar 2) (dC (.str "")))) (dOr (dT (dOp gtD (dCall (g1 lenD) (dCons (dVar 2) dNil)) (dC (.int 12)))) (dAnd (dT (dOp gtD (dCall (g1 lenD) (dCons (dVar 2) dNil)) (dC (.int 1)))) (dT (dOp eqD (dOp ixD (dVar 2) (dC (.int 0))) (dC (.str "0"))))))) (retF (dC .non)) .nx) (seqF (forF (dIt itemsS (dVar 2)) (tgN 3) Lp_l_place_1) (appF 1 (dCall (g1 intD) (dCons (dVar 2) dNil)))))
def Fb_l_place : Rho → SR := (seqF (ifF (dT (dOp eqD (dVar 0) (dC (.str "root")))) (retF (dTup dNil)) .nx) (seqF (setF 1 (dLst dNil)) (seqF (forF (dIt itemsL (dStr splitD (dVar 0) (dC (.str ".")))) (tgN 2) Lp_l_place_2) (retF (dCall (g1 tupleD) (dCons (dVar 1) dNil))))))
def F_l_place : List D → Res D := runF 4 false Fb_l_place

def Fb_l_due : Rho → SR := (seqF (setF 1 (dCall F_l_place (dCons (dVar 0) dNil))) (seqF (ifF (dT (dOp (isD false) (dVar 1) (dC .non))) (retF (dTup (dCons (dC (.str "refused")) (dCons (dVar 0) (dCons (dC (.bl true)) dNil))))) .nx) (retF (dTup (dCons (dC (.str "read")) (dCons (dVar 1) dNil))))))
def F_l_due : List D → Res D := runF 2 false Fb_l_due

def Fb_l_read : Rho → SR := (seqF (tryF isM_BadValue 2 (setF 1 (dCall F_read_place (dCons (dVar 0) dNil))) (seqF (setF 3 (dAndV (dIsX isM_LaidError 2) (dIsX isM_ValueError 2))) (retF (dTup (dCons (dC (.str "refused")) (dCons (dXf 2 "text") (dCons (dAndV (dVar 3) (dAndV (dNotV (dIsX isM_BadCommand 2)) (dNotV (dIsX isM_BadPattern 2)))) dNil))))))) (retF (dTup (dCons (dC (.str "read")) (dCons (dVar 1) dNil)))))
def F_l_read : List D → Res D := runF 4 false Fb_l_read

def Fb_l_spoilt : Rho → SR := (seqF (setF 4 (dOp ixD (dLst (dCons (dC (.str "0")) (dCons (dC (.str "1")) (dCons (dC (.str "7")) (dCons (dC (.str ".")) (dCons (dC (.str " ")) (dCons (dC (.str "-")) (dCons (dC (.str "+")) (dCons (dC (.str "a")) (dCons (dC (.str "r")) (dCons (dC (.str "_")) (dCons (dC (.str ",")) (dCons (dC (.str "o")) dNil))))))))))))) (dVar 3))) (seqF (setF 5 (dOp modD (dCall (g1 intD) (dCons (dVar 2) dNil)) (dOp addD (dCall (g1 lenD) (dCons (dVar 0) dNil)) (dC (.int 1))))) (seqF (ifF (dT (dOp eqD (dVar 1) (dC (.int 0)))) (retF (dOp addD (dOp addD (dSl slD (dVar 0) dNoP (dPart (dVar 5))) (dVar 4)) (dSl slD (dVar 0) (dPart (dVar 5)) dNoP))) .nx) (seqF (ifF (dT (dOp eqD (dVar 1) (dC (.int 1)))) (retF (dOp addD (dSl slD (dVar 0) dNoP (dPart (dVar 5))) (dSl slD (dVar 0) (dPart (dOp addD (dVar 5) (dC (.int 1)))) dNoP))) .nx) (retF (dOp addD (dOp addD (dSl slD (dVar 0) dNoP (dPart (dVar 5))) (dVar 4)) (dSl slD (dVar 0) (dPart (dOp addD (dVar 5) (dC (.int 1)))) dNoP)))))))
def F_l_spoilt : List D → Res D := runF 6 false Fb_l_spoilt

def Fb_l_odd : Rho → SR := (seqF (setF 1 (dC (.str "|.|..|root.|.root|root.0|0.root|Root|roo|rootroot|00|0.01|1..2|1.|.1|-1|+1|1,2| 1|1 |1. 2"))) (seqF (setF 1 (dOp addD (dVar 1) (dC (.str "|0x1|1_0|1e1|1000000000000|0|10.0.100|1\n|root\n|\n")))) (retF (dOp ixD (dStr splitD (dVar 1) (dC (.str "|"))) (dVar 0)))))
def F_l_odd : List D → Res D := runF 2 false Fb_l_odd

def Lp_l_laying_1 : Rho → SR := (setF 1 (dOp addD (dVar 1) (dLst (dCons (dC (.int 4)) (dCons (dC (.int 8)) dNil)))))
def Lp_l_laying_2 : Rho → SR := (seqF (setF 5 (dOp addD (dOp addD (dVar 5) (dOp ixD (dVar 3) (dOp addD (dOp mulD (dC (.int 2)) (dVar 2)) (dC (.int 1))))) (dC (.int 1)))) (seqF (setF 7 (dC .non)) (seqF (ifF (dT (dOp eqD (dVar 2) (dC (.int 0)))) (setF 7 (dC (.int 0))) (ifF (dT (dOp ltD (dOp ixD (dVar 3) (dOp addD (dOp mulD (dC (.int 2)) (dVar 2)) (dC (.int 2)))) (dC (.int 5)))) (seqF (setF 7 (dCall (g2 (intsD min2)) (dCons (dOp ixD (dVar 3) (dOp addD (dOp mulD (dC (.int 2)) (dVar 2)) (dC (.int 2)))) (dCons (dVar 6) dNil)))) (setF 6 (dOp subD (dVar 6) (dVar 7)))) .nx)) (appF 4 (dTup (dCons (dVar 5) (dCons (dVar 7) dNil)))))))
def Fb_l_laying : Rho → SR := (seqF (setF 1 (dLst (dCons (dC (.int 9)) dNil))) (seqF (forF (dIts rng1 (dCons (dC (.int 8)) dNil)) (tgN 2) Lp_l_laying_1) (seqF (setF 3 (dCall F_l_row (dCons (dVar 0) (dCons (dVar 1) dNil)))) (seqF (setF 4 (dLst dNil)) (seqF (asgF (tgT 2 (tgCons (tgN 5) (tgCons (tgN 6) tgNil))) (dTup (dCons (dC (.int 0)) (dCons (dC (.int 4)) dNil)))) (seqF (forF (dIts rng1 (dCons (dOp ixD (dVar 3) (dC (.int 0))) dNil)) (tgN 2) Lp_l_laying_2) (retF (dCall (g1 tupleD) (dCons (dVar 4) dNil)))))))))
def F_l_laying : List D → Res D := runF 8 false Fb_l_laying

def Lp_l_lines_1 : Rho → SR := (ifF (dT (dOp (isD false) (dOp ixD (dVar 2) (dC (.int 1))) (dC .non))) (appF 1 (dCall (g1 strD) (dCons (dOp ixD (dVar 2) (dC (.int 0))) dNil))) (appF 1 (dOp addD (dOp addD (dCall (g1 strD) (dCons (dOp ixD (dVar 2) (dC (.int 0))) dNil)) (dC (.str " column "))) (dCall (g1 strD) (dCons (dOp ixD (dVar 2) (dC (.int 1))) dNil)))))
def Fb_l_lines : Rho → SR := (seqF (setF 1 (dLst dNil)) (seqF (forF (dIt itemsT (dVar 0)) (tgN 2) Lp_l_lines_1) (retF (dVar 1))))
def F_l_lines : List D → Res D := runF 3 false Fb_l_lines

def Lp_law_1 : Rho → SR := (ifF (dOr (dNot (dT (dCall (F_l_same 4) (dCons (dCall F_l_read (dCons (dVar 7) dNil)) (dCons (dCall F_l_due (dCons (dVar 7) dNil)) dNil))))) (dNot (dT (dCall (F_l_same 4) (dCons (dCall F_l_read (dCons (dVar 2) dNil)) (dCons (dTup (dCons (dC (.str "read")) (dCons (dVar 1) dNil))) dNil)))))) (retF (dC (.bl false))) .nx)
def Fb_law : Rho → SR := (seqF (setF 1 (dCall F_l_drawn (dCons (dCall F_l_cell (dCons (dVar 0) (dCons (dC (.int 0)) dNil))) (dCons (dC (.int 12)) dNil)))) (seqF (setF 2 (dCall F_l_written (dCons (dVar 1) dNil))) (seqF (ifF (dOr (dNot (dT (dCall (F_l_same 4) (dCons (dCall F_write_place (dCons (dVar 1) dNil)) (dCons (dVar 2) dNil))))) (dNot (dT (dCall (F_l_same 4) (dCons (dCall F_l_read (dCons (dVar 2) dNil)) (dCons (dTup (dCons (dC (.str "read")) (dCons (dVar 1) dNil))) dNil)))))) (retF (dC (.bl false))) .nx) (seqF (setF 3 (dCall F_l_row (dCons (dCall F_l_cell (dCons (dVar 0) (dCons (dC (.int 2)) dNil))) (dCons (dLst (dCons (dC (.int 3)) (dCons (dC (.int 90)) (dCons (dC (.int 12)) (dCons (dC (.int 3)) (dCons (dC (.int 90)) (dCons (dC (.int 12)) (dCons (dC (.int 30)) dNil)))))))) dNil)))) (seqF (setF 4 (dCall F_l_written (dCons (dCall F_l_drawn (dCons (dCall F_l_cell (dCons (dVar 0) (dCons (dC (.int 1)) dNil))) (dCons (dC (.int 6)) dNil))) dNil))) (seqF (setF 5 (dCall F_l_spoilt (dCons (dVar 4) (dCons (dOp ixD (dVar 3) (dC (.int 0))) (dCons (dOp ixD (dVar 3) (dC (.int 1))) (dCons (dOp ixD (dVar 3) (dC (.int 2))) dNil)))))) (seqF (setF 6 (dCall F_l_spoilt (dCons (dVar 5) (dCons (dOp ixD (dVar 3) (dC (.int 3))) (dCons (dOp ixD (dVar 3) (dC (.int 4))) (dCons (dOp ixD (dVar 3) (dC (.int 5))) dNil)))))) (seqF (forF (dIt itemsL (dLst (dCons (dVar 4) (dCons (dVar 5) (dCons (dVar 6) (dCons (dCall F_l_odd (dCons (dOp ixD (dVar 3) (dC (.int 6))) dNil)) dNil)))))) (tgN 7) Lp_law_1) (seqF (setF 8 (dCall F_l_laying (dCons (dCall F_l_cell (dCons (dVar 0) (dCons (dC (.int 3)) dNil))) dNil))) (seqF (setF 9 (dCall F_l_lines (dCons (dVar 8) dNil))) (seqF (setF 10 (dCall F_write_laying (dCons (dVar 8) dNil))) (seqF (ifF (dNot (dT (dCall (F_l_same 4) (dCons (dVar 10) (dCons (dVar 9) dNil))))) (retF (dC (.bl false))) .nx) (seqF (appF 10 (dC (.str "0"))) (retF (dCall (F_l_same 4) (dCons (dCall F_write_laying (dCons (dVar 8) dNil)) (dCons (dVar 9) dNil)))))))))))))))))
def F_law : List D → Res D := runF 11 false Fb_law
end
end Lk

end S_P_data
section S_M_row
set_option linter.all false
set_option maxHeartbeats 1000000
set_option maxRecDepth 100000
namespace Lk
open PySem L2 Dx
/-! ### loops, step by step -/
section
variable {t : D → Rho → Res Rho} {F : Rho → SR} {d : D} {ds : List D} {r r1 r2 : Rho}
theorem loop_nx (h1 : t d r = .ok r1) (h2 : F r1 = .nx r2) : loopF t F (d :: ds) r = loopF t F ds r2 := by rw [loopF, h1]; dsimp only; rw [h2]
theorem loop_ct (h1 : t d r = .ok r1) (h2 : F r1 = .ct r2) : loopF t F (d :: ds) r = loopF t F ds r2 := by rw [loopF, h1]; dsimp only; rw [h2]
theorem loop_rt {e : D} (h1 : t d r = .ok r1) (h2 : F r1 = .rt e) : loopF t F (d :: ds) r = .rt e := by rw [loopF, h1]; dsimp only; rw [h2]
theorem loop_er {n : Str} {ns : List Str} {vs : List D} (h1 : t d r = .ok r1) (h2 : F r1 = .er r2 n ns vs) : loopF t F (d :: ds) r = .er r2 n ns vs := by rw [loopF, h1]; dsimp only; rw [h2]
theorem loop_nil : loopF t F [] r = .nx r := rfl
theorem seq_nx {F K : Rho → SR} (h : F r = .nx r1) : seqF F K r = K r1 := by unfold seqF; rw [h]
theorem seq_rt {F K : Rho → SR} {e : D} (h : F r = .rt e) : seqF F K r = .rt e := by unfold seqF; rw [h]
theorem seq_er {F K : Rho → SR} {n : Str} {ns : List Str} {vs : List D} (h : F r = .er r1 n ns vs) : seqF F K r = .er r1 n ns vs := by unfold seqF; rw [h]
theorem set_ok {f : Rho → Res D} {i : Nat} (h : f r = .ok d) : setF i f r = .nx (r.set i (some d)) := by unfold setF liftS; rw [h]
theorem ret_ok {f : Rho → Res D} (h : f r = .ok d) : retF f r = .rt d := by unfold retF liftS; rw [h]
theorem if_t {t : Rho → Res Bool} {F K : Rho → SR} (h : t r = .ok true) : ifF t F K r = F r := by unfold ifF liftS; rw [h]; rfl
theorem if_f {t : Rho → Res Bool} {F K : Rho → SR} (h : t r = .ok false) : ifF t F K r = K r := by unfold ifF liftS; rw [h]; rfl
theorem for_ok {its : Rho → Res (List D)} (h : its r = .ok ds) : forF its t F r = loopF t F ds r := by unfold forF liftS; rw [h]
theorem app_ok {f : Rho → Res D} {i : Nat} (h1 : r[i]? = some (some (.lst ds))) (h2 : f r = .ok d) (h3 : ds.length < sizeLine) : appF i f r = .nx (r.set i (some (.lst (ds ++ [d])))) := by
  unfold appF ownL liftS
  rw [h1]
  dsimp only
  rw [h2]
  dsimp only
  rw [guardS_pos h3]
theorem run_rt {n : Nat} {rm : Bool} {as : List D} (h : F (startR n as) = .rt d) : runF n rm F as = .ok d := by unfold runF; rw [h]
end
/-! ### rows of draws -/
def digs : Int → List Int → List Int
  | _, [] => []
  | c, l :: ls => c % l :: digs (c / l) ls
def mixv (c : Int) (k : Nat) (l : Int) : Int := (((c * 48271 + (k : Int) * 69621 + 11) % 2147483647) * (16807 + 2 * (k : Int)) + (k : Int) * (k : Int) * 40692 + 7) % 2147483399 / 31 % l
def rowL (c : Int) (ls : List Int) : List Int := if 1000000000000000000 ≤ c then digs (c - 1000000000000000000) ls else (List.range ls.length).map fun k => mixv c k (ls.getD k 1)
abbrev iL (ns : List Int) : D := .lst (ns.map D.int)
theorem loopA (c L : D) : ∀ (ls acc : List Int) (rest : Int) (x4 : Option D), (∀ l ∈ ls, 0 < l ∧ l < 4611686018427387904) → acc.length + ls.length ≤ sizeLine →
    ∃ r3 r4, loopF (tgN 4) Lp_l_row_1 (ls.map D.int) [some c, some L, some (iL acc), some (.int rest), x4, none, none] = .nx [some c, some L, some (iL (acc ++ digs rest ls)), some (.int r3), r4, none, none]
  | [], acc, rest, x4, _, _ => ⟨rest, x4, by simp [loopF, digs]⟩
  | l :: ls, acc, rest, x4, hl, hn => by
    have h1 := hl l (by simp)
    have hn' : acc.length < sizeLine := by simp at hn; omega
    obtain ⟨r3, r4, h⟩ := loopA c L ls (acc ++ [rest % l]) (rest / l) (some (.int l)) (fun x hx => hl x (by simp [hx])) (by simp at hn ⊢; omega)
    refine ⟨r3, r4, ?_⟩
    rw [List.map_cons, loop_nx (r1 := [some c, some L, some (iL acc), some (.int rest), some (.int l), none, none]) (r2 := [some c, some L, some (iL (acc ++ [rest % l])), some (.int (rest / l)), some (.int l), none, none]) rfl, h]
    · simp [digs]
    · simp [Lp_l_row_1, tgN, tgT, tgNil, tgCons, seqF, appF, stoF, asgF, parF, ownL, liftS, dOp, dUn, dVar, dC, dCall, dCons, dNil, g1, g2, intD, lenD, modD, fdivD, mulD, addD, subD, negD, absD, intsD, setF, retF, ifF, dropF, dT, asB, asI, dAnd, dOr, dNot, dIf, dAndV, dOrV, dNotV, dTup, mkTup, dLst, mkLst, dChain, Res.bind, List.set, List.getElem?_cons_zero, List.getElem?_cons_succ, List.getElem?_nil, runF, startR, List.map_cons, List.map_nil, List.replicate, List.length_cons, List.length_nil, List.cons_append, List.nil_append, List.append_nil, ordD, eqD, neD, eqB, eqFlat, isD, isN, forF, dIt, dIts, itemsL, itemsT, itemsS, items, listD, tupleD, rng1, rng2, dYes, wipeR, dLc, dNoP, dPart, dSl, slD, slL, ixD, inD, ninD, inB, dTru, truB, strD, dStr, asS, joinD, joinZ, splitD, fmtD, dJoin, dJcons, dJnil, augF, guard_true, guardS_true, and_self, and_true, true_and, h1, hn']
theorem small_of {i : Int} (h : -1000000000000 < i) (h' : i < 1000000000000) : smallI i := by unfold smallI; omega
theorem sB1 (c : Int) (L A x6 : D) (k : Int) (y6 : Option D) : setF 6 (dOp modD (dCall (g1 intD) (dCons (dOp addD (dOp addD (dOp mulD (dVar 0) (dC (.int 48271))) (dOp mulD (dVar 5) (dC (.int 69621)))) (dC (.int 11))) dNil)) (dC (.int 2147483647))) [some (.int c), some L, some A, none, none, some (.int k), y6] =
    .nx [some (.int c), some L, some A, none, none, some (.int k), some (.int ((c * 48271 + k * 69621 + 11) % 2147483647))] := by
  have a1 : smallI 48271 := small_of (by omega) (by omega)
  have a2 : smallI 69621 := small_of (by omega) (by omega)
  simp [tgN, tgT, tgNil, tgCons, seqF, appF, stoF, asgF, parF, ownL, liftS, dOp, dUn, dVar, dC, dCall, dCons, dNil, g1, g2, intD, lenD, modD, fdivD, mulD, addD, subD, negD, absD, intsD, setF, retF, ifF, dropF, dT, asB, asI, dAnd, dOr, dNot, dIf, dAndV, dOrV, dNotV, dTup, mkTup, dLst, mkLst, dChain, Res.bind, List.set, List.getElem?_cons_zero, List.getElem?_cons_succ, List.getElem?_nil, runF, startR, List.map_cons, List.map_nil, List.replicate, List.length_cons, List.length_nil, List.cons_append, List.nil_append, List.append_nil, ordD, eqD, neD, eqB, eqFlat, isD, isN, forF, dIt, dIts, itemsL, itemsT, itemsS, items, listD, tupleD, rng1, rng2, dYes, wipeR, dLc, dNoP, dPart, dSl, slD, slL, ixD, inD, ninD, inB, dTru, truB, strD, dStr, asS, joinD, joinZ, splitD, fmtD, dJoin, dJcons, dJnil, augF, guard_true, guardS_true, and_self, and_true, true_and, a1, a2]
theorem sB2 (c L A : D) (k m : Int) (hk : smallI k) (hm : smallI m) : setF 6 (dOp modD (dCall (g1 intD) (dCons (dOp addD (dOp addD (dOp mulD (dVar 6) (dOp addD (dC (.int 16807)) (dOp mulD (dC (.int 2)) (dVar 5)))) (dOp mulD (dOp mulD (dVar 5) (dVar 5)) (dC (.int 40692)))) (dC (.int 7))) dNil)) (dC (.int 2147483399))) [some c, some L, some A, none, none, some (.int k), some (.int m)] =
    .nx [some c, some L, some A, none, none, some (.int k), some (.int ((m * (16807 + 2 * k) + k * k * 40692 + 7) % 2147483399))] := by
  have a3 : smallI 40692 := small_of (by omega) (by omega)
  have a4 : smallI 2 := small_of (by omega) (by omega)
  simp [tgN, tgT, tgNil, tgCons, seqF, appF, stoF, asgF, parF, ownL, liftS, dOp, dUn, dVar, dC, dCall, dCons, dNil, g1, g2, intD, lenD, modD, fdivD, mulD, addD, subD, negD, absD, intsD, setF, retF, ifF, dropF, dT, asB, asI, dAnd, dOr, dNot, dIf, dAndV, dOrV, dNotV, dTup, mkTup, dLst, mkLst, dChain, Res.bind, List.set, List.getElem?_cons_zero, List.getElem?_cons_succ, List.getElem?_nil, runF, startR, List.map_cons, List.map_nil, List.replicate, List.length_cons, List.length_nil, List.cons_append, List.nil_append, List.append_nil, ordD, eqD, neD, eqB, eqFlat, isD, isN, forF, dIt, dIts, itemsL, itemsT, itemsS, items, listD, tupleD, rng1, rng2, dYes, wipeR, dLc, dNoP, dPart, dSl, slD, slL, ixD, inD, ninD, inB, dTru, truB, strD, dStr, asS, joinD, joinZ, splitD, fmtD, dJoin, dJcons, dJnil, augF, guard_true, guardS_true, and_self, and_true, true_and, a3, a4, hk, hm]
theorem sB3 (c A : D) (ls : List Int) (k l m : Int) (hat : atI (ls.map D.int) k = some (.int l)) (hl : 0 < l) : dOp modD (dCall (g1 intD) (dCons (dOp fdivD (dVar 6) (dC (.int 31))) dNil)) (dOp ixD (dVar 1) (dVar 5)) [some c, some (iL ls), some A, none, none, some (.int k), some (.int m)] = .ok (.int (m / 31 % l)) := by
  simp [tgN, tgT, tgNil, tgCons, seqF, appF, stoF, asgF, parF, ownL, liftS, dOp, dUn, dVar, dC, dCall, dCons, dNil, g1, g2, intD, lenD, modD, fdivD, mulD, addD, subD, negD, absD, intsD, setF, retF, ifF, dropF, dT, asB, asI, dAnd, dOr, dNot, dIf, dAndV, dOrV, dNotV, dTup, mkTup, dLst, mkLst, dChain, Res.bind, List.set, List.getElem?_cons_zero, List.getElem?_cons_succ, List.getElem?_nil, runF, startR, List.map_cons, List.map_nil, List.replicate, List.length_cons, List.length_nil, List.cons_append, List.nil_append, List.append_nil, ordD, eqD, neD, eqB, eqFlat, isD, isN, forF, dIt, dIts, itemsL, itemsT, itemsS, items, listD, tupleD, rng1, rng2, dYes, wipeR, dLc, dNoP, dPart, dSl, slD, slL, ixD, inD, ninD, inB, dTru, truB, strD, dStr, asS, joinD, joinZ, splitD, fmtD, dJoin, dJcons, dJnil, augF, guard_true, guardS_true, and_self, and_true, true_and, hat, hl]
theorem stepB (c : Int) (ls : List Int) (k : Nat) (l : Int) (acc : List Int) (x6 : Option D) (hk : ls[k]? = some l) (hl : 0 < l) (hkk : k < 100000) (hn : acc.length < sizeLine) :
    ∃ r6, Lp_l_row_2 [some (.int c), some (iL ls), some (iL acc), none, none, some (.int (k : Int)), x6] = .nx [some (.int c), some (iL ls), some (iL (acc ++ [mixv c k l])), none, none, some (.int (k : Int)), r6] := by
  have ak : smallI (k : Int) := small_of (by omega) (by omega)
  have hat : atI (ls.map D.int) (k : Int) = some (.int l) := atI_nat (by rw [List.getElem?_map, hk]; rfl)
  have am : smallI ((c * 48271 + (k : Int) * 69621 + 11) % 2147483647) := by
    generalize c * 48271 + (k : Int) * 69621 + 11 = x
    have := Int.emod_nonneg x (show (2147483647 : Int) ≠ 0 by decide)
    have := Int.emod_lt_of_pos x (show (0 : Int) < 2147483647 by decide)
    exact small_of (by omega) (by omega)
  refine ⟨some (.int ((((c * 48271 + (k : Int) * 69621 + 11) % 2147483647) * (16807 + 2 * (k : Int)) + (k : Int) * (k : Int) * 40692 + 7) % 2147483399)), (seq_nx (sB1 c (iL ls) (iL acc) (iL acc) k x6)).trans ((seq_nx (sB2 (.int c) (iL ls) (iL acc) k _ ak am)).trans ((app_ok (ds := acc.map D.int) rfl (sB3 (.int c) (iL acc) ls k l _ hat hl) (by rw [List.length_map]; exact hn)).trans ?_))⟩
  unfold mixv
  simp only [List.set, iL, List.map_append, List.map_cons, List.map_nil]
theorem loopB (c : Int) (ls : List Int) (hl : ∀ l ∈ ls, 0 < l) (hn : ls.length < 100000) : ∀ (m k : Nat) (acc : List Int) (x5 x6 : Option D), k + m = ls.length → acc.length = k →
    ∃ r5 r6, loopF (tgN 5) Lp_l_row_2 ((List.range' k m).map fun i : Nat => D.int (0 + (i : Int))) [some (.int c), some (iL ls), some (iL acc), none, none, x5, x6] =
      .nx [some (.int c), some (iL ls), some (iL (acc ++ (List.range' k m).map fun j => mixv c j (ls.getD j 1))), none, none, r5, r6]
  | 0, k, acc, x5, x6, _, _ => ⟨x5, x6, by simp [loopF]⟩
  | m + 1, k, acc, x5, x6, hk, ha => by
    have hlt : k < ls.length := by omega
    have hg : ls[k]? = some ls[k] := List.getElem?_eq_getElem hlt
    obtain ⟨q6, hq⟩ := stepB c ls k ls[k] acc x6 hg (hl _ (List.getElem_mem hlt)) (by omega) (by rw [ha]; exact Nat.lt_of_lt_of_le (show k < 100000 by omega) (by decide))
    obtain ⟨r5, r6, h⟩ := loopB c ls hl hn m (k + 1) (acc ++ [mixv c k ls[k]]) (some (.int (k : Int))) q6 (by omega) (by simp [ha])
    refine ⟨r5, r6, ?_⟩
    rw [List.range'_succ, List.map_cons, loop_nx (r1 := [some (.int c), some (iL ls), some (iL acc), none, none, some (.int (k : Int)), x6]) (by simp [tgN]) hq, h]
    simp [hlt]
theorem row_eq (c : Int) (ls : List Int) (hl : ∀ l ∈ ls, 0 < l ∧ l < 4611686018427387904) (hn : ls.length < 100000) : F_l_row [.int c, iL ls] = .ok (iL (rowL c ls)) := by
  have hsz : (100000 : Nat) ≤ sizeLine := by decide
  by_cases hc : 1000000000000000000 ≤ c
  · obtain ⟨r3, r4, h⟩ := loopA (.int c) (iL ls) ls [] (c - 1000000000000000000) none hl (by simp; omega)
    simp [F_l_row, Fb_l_row, tgN, tgT, tgNil, tgCons, seqF, appF, stoF, asgF, parF, ownL, liftS, dOp, dUn, dVar, dC, dCall, dCons, dNil, g1, g2, intD, lenD, modD, fdivD, mulD, addD, subD, negD, absD, intsD, setF, retF, ifF, dropF, dT, asB, asI, dAnd, dOr, dNot, dIf, dAndV, dOrV, dNotV, dTup, mkTup, dLst, mkLst, dChain, Res.bind, List.set, List.getElem?_cons_zero, List.getElem?_cons_succ, List.getElem?_nil, runF, startR, List.map_cons, List.map_nil, List.replicate, List.length_cons, List.length_nil, List.cons_append, List.nil_append, List.append_nil, ordD, eqD, neD, eqB, eqFlat, isD, isN, forF, dIt, dIts, itemsL, itemsT, itemsS, items, listD, tupleD, rng1, rng2, dYes, wipeR, dLc, dNoP, dPart, dSl, slD, slL, ixD, inD, ninD, inB, dTru, truB, strD, dStr, asS, joinD, joinZ, splitD, fmtD, dJoin, dJcons, dJnil, augF, guard_true, guardS_true, and_self, and_true, true_and, hc, rowL]
    rw [show (D.lst [] : D) = iL [] from rfl, h]
    simp
  · obtain ⟨r5, r6, h⟩ := loopB c ls (fun l h => (hl l h).1) hn ls.length 0 [] none none (by omega) rfl
    have hb : ((ls.length : Nat) : Int) < 4611686018427387904 := by omega
    have hb' : (-4611686018427387904 : Int) ≤ ((ls.length : Nat) : Int) := by omega
    have hr : rngL 0 ls.length = (List.range' 0 ls.length).map fun i : Nat => D.int (0 + (i : Int)) := by unfold rngL; rw [List.range_eq_range']
    simp [F_l_row, Fb_l_row, tgN, tgT, tgNil, tgCons, seqF, appF, stoF, asgF, parF, ownL, liftS, dOp, dUn, dVar, dC, dCall, dCons, dNil, g1, g2, intD, lenD, modD, fdivD, mulD, addD, subD, negD, absD, intsD, setF, retF, ifF, dropF, dT, asB, asI, dAnd, dOr, dNot, dIf, dAndV, dOrV, dNotV, dTup, mkTup, dLst, mkLst, dChain, Res.bind, List.set, List.getElem?_cons_zero, List.getElem?_cons_succ, List.getElem?_nil, runF, startR, List.map_cons, List.map_nil, List.replicate, List.length_cons, List.length_nil, List.cons_append, List.nil_append, List.append_nil, ordD, eqD, neD, eqB, eqFlat, isD, isN, forF, dIt, dIts, itemsL, itemsT, itemsS, items, listD, tupleD, rng1, rng2, dYes, wipeR, dLc, dNoP, dPart, dSl, slD, slL, ixD, inD, ninD, inB, dTru, truB, strD, dStr, asS, joinD, joinZ, splitD, fmtD, dJoin, dJcons, dJnil, augF, guard_true, guardS_true, and_self, and_true, true_and, hc, rowL, hb, hb']
    rw [show (D.lst [] : D) = iL [] from rfl, hr, h, List.range_eq_range']
    simp
theorem digs_len : ∀ (ls : List Int) (c : Int), (digs c ls).length = ls.length
  | [], _ => rfl
  | l :: ls, c => by simp [digs, digs_len ls]
theorem rowL_len (c : Int) (ls : List Int) : (rowL c ls).length = ls.length := by
  unfold rowL
  split
  · exact digs_len ls _
  · simp
theorem digs_get : ∀ (ls : List Int) (c : Int) (k : Nat) (l : Int), (∀ l ∈ ls, 0 < l) → ls[k]? = some l → ∃ v, (digs c ls)[k]? = some v ∧ 0 ≤ v ∧ v < l
  | [], _, _, _, _, h => by simp at h
  | l :: ls, c, 0, l', hl, h => by
    simp at h; subst h
    have := hl l (by simp)
    exact ⟨c % l, by simp [digs], Int.emod_nonneg _ (by omega), Int.emod_lt_of_pos _ this⟩
  | l :: ls, c, k + 1, l', hl, h => by
    obtain ⟨v, h1, h2⟩ := digs_get ls (c / l) k l' (fun x hx => hl x (by simp [hx])) (by simpa using h)
    exact ⟨v, by simpa [digs] using h1, h2⟩
theorem rowL_get (c : Int) (ls : List Int) (k : Nat) (l : Int) (hl : ∀ l ∈ ls, 0 < l) (h : ls[k]? = some l) : ∃ v, (rowL c ls)[k]? = some v ∧ 0 ≤ v ∧ v < l := by
  unfold rowL
  split
  · exact digs_get ls _ k l hl h
  · have hk : k < ls.length := (List.getElem?_eq_some_iff.mp h).1
    have hp := hl l (List.mem_of_getElem? h)
    refine ⟨mixv c k l, ?_, ?_, ?_⟩
    · rw [List.getElem?_map, List.getElem?_range hk]
      simp [List.getD_eq_getElem?_getD, h]
    · exact Int.emod_nonneg _ (by omega)
    · exact Int.emod_lt_of_pos _ hp
end Lk

end S_M_row
section S_M_txt
set_option linter.all false
set_option maxHeartbeats 2000000
set_option maxRecDepth 100000
namespace Lk
open PySem L2 Dx TL
/-! ### texts of digits -/
def isDg (n : Nat) : Bool := decide (48 ≤ n ∧ n ≤ 57)
theorem mem_ten (n : Nat) : decide (n ∈ (Str.ofString "0123456789").cps.toList) = isDg n := by
  have e : (Str.ofString "0123456789").cps.toList = [48, 49, 50, 51, 52, 53, 54, 55, 56, 57] := by decide +kernel
  rw [e]
  unfold isDg
  by_cases h : 48 ≤ n ∧ n ≤ 57
  · rw [decide_eq_true h]
    have : n = 48 ∨ n = 49 ∨ n = 50 ∨ n = 51 ∨ n = 52 ∨ n = 53 ∨ n = 54 ∨ n = 55 ∨ n = 56 ∨ n = 57 := by omega
    simpa using this
  · rw [decide_eq_false h]
    simp
    omega
theorem str_ext {x y : Str} (h : tl x = tl y) : x = y := ext_tl h
theorem eq_empty (s : Str) : decide (s = "") = decide (tl s = []) := by
  by_cases h : tl s = []
  · have : s = "" := str_ext (by rw [h]; rfl)
    simp [this, h]
    rfl
  · have : s ≠ "" := fun e => h (by rw [e]; rfl)
    simp [this, h]
theorem in_ten (n : Nat) : inStr ⟨#[n]⟩ "0123456789" = isDg n := by
  show decide (n ∈ (Str.ofString "0123456789").cps.toList) = isDg n
  exact mem_ten n
/-- the value of a written number, by its signs -/
def pvL (cs : List Nat) : Option Int := if cs = [] ∨ 12 < cs.length ∨ cs.all isDg = false ∨ (1 < cs.length ∧ cs.head? = some 48) then none else some ((NumText.digitsVal cs : Nat) : Int)
def pvD (s : Str) : D := match pvL (tl s) with
  | some n => .int n
  | none => .non
theorem sg_loop {t : D → Rho → Res Rho} {F : Rho → SR} {E : Option D → Rho} (ht : ∀ d x, t d (E x) = .ok (E (some d))) (hF : ∀ n : Nat, F (E (some (.str ⟨#[n]⟩))) = if isDg n = true then .nx (E (some (.str ⟨#[n]⟩))) else .rt .non) : ∀ (cs : List Nat) (x : Option D),
    (cs.all isDg = true ∧ ∃ y, loopF t F (cs.map fun n => D.str ⟨#[n]⟩) (E x) = .nx (E y)) ∨ (cs.all isDg = false ∧ loopF t F (cs.map fun n => D.str ⟨#[n]⟩) (E x) = .rt .non)
  | [], x => .inl ⟨rfl, x, rfl⟩
  | n :: cs, x => by
    by_cases hn : isDg n = true
    · have e1 : F (E (some (.str ⟨#[n]⟩))) = .nx (E (some (.str ⟨#[n]⟩))) := by rw [hF, if_pos hn]
      rcases sg_loop ht hF cs (some (.str ⟨#[n]⟩)) with ⟨h1, y, h2⟩ | ⟨h1, h2⟩
      · exact .inl ⟨by simp [hn, h1], y, by rw [List.map_cons, loop_nx (ht _ _) e1, h2]⟩
      · exact .inr ⟨by simp [h1], by rw [List.map_cons, loop_nx (ht _ _) e1, h2]⟩
    · have e1 : F (E (some (.str ⟨#[n]⟩))) = .rt .non := by rw [hF, if_neg hn]
      exact .inr ⟨by simp [hn], by rw [List.map_cons, loop_rt (ht _ _) e1]⟩
theorem intT (s : Str) (h : (tl s).all isDg = true) (h1 : tl s ≠ []) (h2 : (tl s).length ≤ 12) : PySem.intText? s = some ((NumText.digitsVal (tl s) : Nat) : Int) := by
  refine PySem.intText_digits (x := s) (fun n hn => ?_) h1 (by rw [len_tl]; omega)
  have := List.all_eq_true.mp h n hn
  exact of_decide_eq_true this
theorem head_dec (s : Str) (h : 1 < (tl s).length) : ∃ n r, tl s = n :: r ∧ atI s.cps.toList 0 = some n := by
  cases e : tl s with
  | nil => rw [e] at h; simp at h
  | cons n r =>
    refine ⟨n, r, rfl, ?_⟩
    have : s.cps.toList = n :: r := e
    rw [this]
    exact atI_nat (j := 0) rfl
theorem one_eq (n : Nat) : decide ((⟨#[n]⟩ : Str) = "0") = decide (n = 48) := by
  by_cases h : n = 48
  · subst h; simp; rfl
  · have : (⟨#[n]⟩ : Str) ≠ "0" := fun e => h (by
      have := congrArg tl e
      have e2 : tl ("0" : Str) = [48] := by decide +kernel
      rw [e2] at this
      simpa [tl] using this)
    simp [h, this]
theorem dv_eq (s : Str) (hs : s.length ≤ sizeLine) : F_digits_value [.str s] = .ok (pvD s) := by
  have hlen : s.length = (tl s).length := len_tl s
  have hsg : signs s = (tl s).map fun n => D.str ⟨#[n]⟩ := rfl
  have hF : ∀ n : Nat, Lp_digits_value_1 [some (.str s), some (.str ⟨#[n]⟩)] = if isDg n = true then .nx [some (.str s), some (.str ⟨#[n]⟩)] else .rt .non := fun n => by
    simp [Lp_digits_value_1, tgN, tgT, tgNil, tgCons, seqF, appF, stoF, asgF, parF, ownL, liftS, dOp, dUn, dVar, dC, dCall, dCons, dNil, g1, g2, intD, lenD, modD, fdivD, mulD, addD, subD, negD, absD, intsD, setF, retF, ifF, dropF, dT, asB, asI, dAnd, dOr, dNot, dIf, dAndV, dOrV, dNotV, dTup, mkTup, dLst, mkLst, dChain, Res.bind, List.set, List.getElem?_cons_zero, List.getElem?_cons_succ, List.getElem?_nil, runF, startR, List.map_cons, List.map_nil, List.replicate, List.length_cons, List.length_nil, List.cons_append, List.nil_append, List.append_nil, ordD, eqD, neD, eqB, eqFlat, isD, isN, forF, dIt, dIts, itemsL, itemsT, itemsS, items, listD, tupleD, rng1, rng2, dYes, wipeR, dLc, dNoP, dPart, dSl, slD, slL, ixD, inD, ninD, inB, dTru, truB, strD, dStr, asS, joinD, joinZ, splitD, fmtD, dJoin, dJcons, dJnil, augF, guard_true, guardS_true, and_self, and_true, true_and, in_ten]
    cases isDg n <;> rfl
  have hl := sg_loop (t := tgN 1) (F := Lp_digits_value_1) (E := fun x => [some (.str s), x]) (fun _ _ => rfl) hF (tl s) none
  have pN : (tl s = [] ∨ 12 < (tl s).length ∨ (tl s).all isDg = false ∨ (1 < (tl s).length ∧ (tl s).head? = some 48)) → pvD s = .non := fun h => by unfold pvD pvL; rw [if_pos h]
  have pS : ¬ (tl s = [] ∨ 12 < (tl s).length ∨ (tl s).all isDg = false ∨ (1 < (tl s).length ∧ (tl s).head? = some 48)) → pvD s = .int ((NumText.digitsVal (tl s) : Nat) : Int) := fun h => by unfold pvD pvL; rw [if_neg h]
  by_cases h0 : tl s = []
  · rw [pN (.inl h0)]
    simp [F_digits_value, Fb_digits_value, tgN, tgT, tgNil, tgCons, seqF, appF, stoF, asgF, parF, ownL, liftS, dOp, dUn, dVar, dC, dCall, dCons, dNil, g1, g2, intD, lenD, modD, fdivD, mulD, addD, subD, negD, absD, intsD, setF, retF, ifF, dropF, dT, asB, asI, dAnd, dOr, dNot, dIf, dAndV, dOrV, dNotV, dTup, mkTup, dLst, mkLst, dChain, Res.bind, List.set, List.getElem?_cons_zero, List.getElem?_cons_succ, List.getElem?_nil, runF, startR, List.map_cons, List.map_nil, List.replicate, List.length_cons, List.length_nil, List.cons_append, List.nil_append, List.append_nil, ordD, eqD, neD, eqB, eqFlat, isD, isN, forF, dIt, dIts, itemsL, itemsT, itemsS, items, listD, tupleD, rng1, rng2, dYes, wipeR, dLc, dNoP, dPart, dSl, slD, slL, ixD, inD, ninD, inB, dTru, truB, strD, dStr, asS, joinD, joinZ, splitD, fmtD, dJoin, dJcons, dJnil, augF, guard_true, guardS_true, and_self, and_true, true_and, eq_empty, h0, hs]
  by_cases h12 : 12 < s.length
  · rw [pN (.inr (.inl (by omega)))]
    have : (12 : Int) < (s.length : Int) := by omega
    simp [F_digits_value, Fb_digits_value, tgN, tgT, tgNil, tgCons, seqF, appF, stoF, asgF, parF, ownL, liftS, dOp, dUn, dVar, dC, dCall, dCons, dNil, g1, g2, intD, lenD, modD, fdivD, mulD, addD, subD, negD, absD, intsD, setF, retF, ifF, dropF, dT, asB, asI, dAnd, dOr, dNot, dIf, dAndV, dOrV, dNotV, dTup, mkTup, dLst, mkLst, dChain, Res.bind, List.set, List.getElem?_cons_zero, List.getElem?_cons_succ, List.getElem?_nil, runF, startR, List.map_cons, List.map_nil, List.replicate, List.length_cons, List.length_nil, List.cons_append, List.nil_append, List.append_nil, ordD, eqD, neD, eqB, eqFlat, isD, isN, forF, dIt, dIts, itemsL, itemsT, itemsS, items, listD, tupleD, rng1, rng2, dYes, wipeR, dLc, dNoP, dPart, dSl, slD, slL, ixD, inD, ninD, inB, dTru, truB, strD, dStr, asS, joinD, joinZ, splitD, fmtD, dJoin, dJcons, dJnil, augF, guard_true, guardS_true, and_self, and_true, true_and, eq_empty, h0, hs, this]
  have h12' : ¬ (12 : Int) < (s.length : Int) := by omega
  rcases hl with ⟨ha, y, hl⟩ | ⟨ha, hl⟩
  · by_cases h1 : 1 < s.length
    · have h1' : (1 : Int) < (s.length : Int) := by omega
      obtain ⟨n, r, e, hat⟩ := head_dec s (by omega)
      by_cases hz : n = 48
      · subst hz
        rw [pN (.inr (.inr (.inr ⟨by omega, by rw [e]; rfl⟩)))]
        simp [F_digits_value, Fb_digits_value, tgN, tgT, tgNil, tgCons, seqF, appF, stoF, asgF, parF, ownL, liftS, dOp, dUn, dVar, dC, dCall, dCons, dNil, g1, g2, intD, lenD, modD, fdivD, mulD, addD, subD, negD, absD, intsD, setF, retF, ifF, dropF, dT, asB, asI, dAnd, dOr, dNot, dIf, dAndV, dOrV, dNotV, dTup, mkTup, dLst, mkLst, dChain, Res.bind, List.set, List.getElem?_cons_zero, List.getElem?_cons_succ, List.getElem?_nil, runF, startR, List.map_cons, List.map_nil, List.replicate, List.length_cons, List.length_nil, List.cons_append, List.nil_append, List.append_nil, ordD, eqD, neD, eqB, eqFlat, isD, isN, forF, dIt, dIts, itemsL, itemsT, itemsS, items, listD, tupleD, rng1, rng2, dYes, wipeR, dLc, dNoP, dPart, dSl, slD, slL, ixD, inD, ninD, inB, dTru, truB, strD, dStr, asS, joinD, joinZ, splitD, fmtD, dJoin, dJcons, dJnil, augF, guard_true, guardS_true, and_self, and_true, true_and, eq_empty, h0, hs, h12', hsg, hl, h1', hat, one_eq]
      · rw [pS (by
          rintro (h | h | h | ⟨_, h⟩)
          · exact h0 h
          · omega
          · rw [ha] at h; cases h
          · rw [e] at h; exact hz (by simpa using h))]
        have hi := intT s ha h0 (by omega)
        have h640 : s.length ≤ 640 := by omega
        simp [F_digits_value, Fb_digits_value, tgN, tgT, tgNil, tgCons, seqF, appF, stoF, asgF, parF, ownL, liftS, dOp, dUn, dVar, dC, dCall, dCons, dNil, g1, g2, intD, lenD, modD, fdivD, mulD, addD, subD, negD, absD, intsD, setF, retF, ifF, dropF, dT, asB, asI, dAnd, dOr, dNot, dIf, dAndV, dOrV, dNotV, dTup, mkTup, dLst, mkLst, dChain, Res.bind, List.set, List.getElem?_cons_zero, List.getElem?_cons_succ, List.getElem?_nil, runF, startR, List.map_cons, List.map_nil, List.replicate, List.length_cons, List.length_nil, List.cons_append, List.nil_append, List.append_nil, ordD, eqD, neD, eqB, eqFlat, isD, isN, forF, dIt, dIts, itemsL, itemsT, itemsS, items, listD, tupleD, rng1, rng2, dYes, wipeR, dLc, dNoP, dPart, dSl, slD, slL, ixD, inD, ninD, inB, dTru, truB, strD, dStr, asS, joinD, joinZ, splitD, fmtD, dJoin, dJcons, dJnil, augF, guard_true, guardS_true, and_self, and_true, true_and, eq_empty, h0, hs, h12', hsg, hl, h1', hat, one_eq, hz, hi, h640]
    · have h1' : ¬ (1 : Int) < (s.length : Int) := by omega
      rw [pS (by
        rintro (h | h | h | ⟨h, _⟩)
        · exact h0 h
        · omega
        · rw [ha] at h; cases h
        · omega)]
      have hi := intT s ha h0 (by omega)
      have h640 : s.length ≤ 640 := by omega
      simp [F_digits_value, Fb_digits_value, tgN, tgT, tgNil, tgCons, seqF, appF, stoF, asgF, parF, ownL, liftS, dOp, dUn, dVar, dC, dCall, dCons, dNil, g1, g2, intD, lenD, modD, fdivD, mulD, addD, subD, negD, absD, intsD, setF, retF, ifF, dropF, dT, asB, asI, dAnd, dOr, dNot, dIf, dAndV, dOrV, dNotV, dTup, mkTup, dLst, mkLst, dChain, Res.bind, List.set, List.getElem?_cons_zero, List.getElem?_cons_succ, List.getElem?_nil, runF, startR, List.map_cons, List.map_nil, List.replicate, List.length_cons, List.length_nil, List.cons_append, List.nil_append, List.append_nil, ordD, eqD, neD, eqB, eqFlat, isD, isN, forF, dIt, dIts, itemsL, itemsT, itemsS, items, listD, tupleD, rng1, rng2, dYes, wipeR, dLc, dNoP, dPart, dSl, slD, slL, ixD, inD, ninD, inB, dTru, truB, strD, dStr, asS, joinD, joinZ, splitD, fmtD, dJoin, dJcons, dJnil, augF, guard_true, guardS_true, and_self, and_true, true_and, eq_empty, h0, hs, h12', hsg, hl, h1', hi, h640]
  · rw [pN (.inr (.inr (.inl ha)))]
    simp [F_digits_value, Fb_digits_value, tgN, tgT, tgNil, tgCons, seqF, appF, stoF, asgF, parF, ownL, liftS, dOp, dUn, dVar, dC, dCall, dCons, dNil, g1, g2, intD, lenD, modD, fdivD, mulD, addD, subD, negD, absD, intsD, setF, retF, ifF, dropF, dT, asB, asI, dAnd, dOr, dNot, dIf, dAndV, dOrV, dNotV, dTup, mkTup, dLst, mkLst, dChain, Res.bind, List.set, List.getElem?_cons_zero, List.getElem?_cons_succ, List.getElem?_nil, runF, startR, List.map_cons, List.map_nil, List.replicate, List.length_cons, List.length_nil, List.cons_append, List.nil_append, List.append_nil, ordD, eqD, neD, eqB, eqFlat, isD, isN, forF, dIt, dIts, itemsL, itemsT, itemsS, items, listD, tupleD, rng1, rng2, dYes, wipeR, dLc, dNoP, dPart, dSl, slD, slL, ixD, inD, ninD, inB, dTru, truB, strD, dStr, asS, joinD, joinZ, splitD, fmtD, dJoin, dJcons, dJnil, augF, guard_true, guardS_true, and_self, and_true, true_and, eq_empty, h0, hs, h12', hsg, hl]
end Lk

end S_M_txt
section S_M_same
set_option linter.all false
set_option maxHeartbeats 2000000
set_option maxRecDepth 100000
namespace Lk
open PySem L2 Dx TL
/-! ### isinstance of data -/
theorem isi_of {T n : String} {d : D} {b : Bool} (h1 : tyN d = some n) (h2 : kitB n T = some b) : isiD T d = .ok (.bl b) := by unfold isiD; rw [h1]; dsimp only; rw [h2]
theorem kb1 : kitB "str" "bool" = some false := by decide +kernel
theorem kb2 : kitB "str" "int" = some false := by decide +kernel
theorem kb3 : kitB "str" "str" = some true := by decide +kernel
theorem kb4 : kitB "int" "bool" = some false := by decide +kernel
theorem kb5 : kitB "int" "int" = some true := by decide +kernel
theorem kb6 : kitB "bool" "bool" = some true := by decide +kernel
theorem kb7 : kitB "tuple" "bool" = some false := by decide +kernel
theorem kb8 : kitB "tuple" "int" = some false := by decide +kernel
theorem kb9 : kitB "tuple" "str" = some false := by decide +kernel
theorem kb10 : kitB "tuple" "tuple" = some true := by decide +kernel
theorem kb11 : kitB "tuple" "list" = some false := by decide +kernel
theorem kb12 : kitB "list" "bool" = some false := by decide +kernel
theorem kb13 : kitB "list" "int" = some false := by decide +kernel
theorem kb14 : kitB "list" "str" = some false := by decide +kernel
theorem kb15 : kitB "list" "tuple" = some false := by decide +kernel
theorem kb16 : kitB "list" "list" = some true := by decide +kernel
/-! ### the law's own sameness -/
theorem same_str (n : Nat) (s : Str) : F_l_same (n + 1) [.str s, .str s] = .ok (.bl true) := by
  simp [F_l_same, Fb_l_same, tgN, tgT, tgNil, tgCons, seqF, appF, stoF, asgF, parF, ownL, liftS, dOp, dUn, dVar, dC, dCall, dCons, dNil, g1, g2, intD, lenD, modD, fdivD, mulD, addD, subD, negD, absD, intsD, setF, retF, ifF, dropF, dT, asB, asI, dAnd, dOr, dNot, dIf, dAndV, dOrV, dNotV, dTup, mkTup, dLst, mkLst, dChain, Res.bind, List.set, List.getElem?_cons_zero, List.getElem?_cons_succ, List.getElem?_nil, runF, startR, List.map_cons, List.map_nil, List.replicate, List.length_cons, List.length_nil, List.cons_append, List.nil_append, List.append_nil, ordD, eqD, neD, eqB, eqFlat, isD, isN, forF, dIt, dIts, itemsL, itemsT, itemsS, items, listD, tupleD, rng1, rng2, dYes, wipeR, dLc, dNoP, dPart, dSl, slD, slL, ixD, inD, ninD, inB, dTru, truB, strD, dStr, asS, joinD, joinZ, splitD, fmtD, dJoin, dJcons, dJnil, augF, guard_true, guardS_true, and_self, and_true, true_and, isi_of (d := .str s) rfl kb1, isi_of (d := .str s) rfl kb2, isi_of (d := .str s) rfl kb3]
theorem same_int (n : Nat) (i : Int) : F_l_same (n + 1) [.int i, .int i] = .ok (.bl true) := by
  simp [F_l_same, Fb_l_same, tgN, tgT, tgNil, tgCons, seqF, appF, stoF, asgF, parF, ownL, liftS, dOp, dUn, dVar, dC, dCall, dCons, dNil, g1, g2, intD, lenD, modD, fdivD, mulD, addD, subD, negD, absD, intsD, setF, retF, ifF, dropF, dT, asB, asI, dAnd, dOr, dNot, dIf, dAndV, dOrV, dNotV, dTup, mkTup, dLst, mkLst, dChain, Res.bind, List.set, List.getElem?_cons_zero, List.getElem?_cons_succ, List.getElem?_nil, runF, startR, List.map_cons, List.map_nil, List.replicate, List.length_cons, List.length_nil, List.cons_append, List.nil_append, List.append_nil, ordD, eqD, neD, eqB, eqFlat, isD, isN, forF, dIt, dIts, itemsL, itemsT, itemsS, items, listD, tupleD, rng1, rng2, dYes, wipeR, dLc, dNoP, dPart, dSl, slD, slL, ixD, inD, ninD, inB, dTru, truB, strD, dStr, asS, joinD, joinZ, splitD, fmtD, dJoin, dJcons, dJnil, augF, guard_true, guardS_true, and_self, and_true, true_and, isi_of (d := .int i) rfl kb4, isi_of (d := .int i) rfl kb5]
theorem same_bl (n : Nat) (b : Bool) : F_l_same (n + 1) [.bl b, .bl b] = .ok (.bl true) := by
  simp [F_l_same, Fb_l_same, tgN, tgT, tgNil, tgCons, seqF, appF, stoF, asgF, parF, ownL, liftS, dOp, dUn, dVar, dC, dCall, dCons, dNil, g1, g2, intD, lenD, modD, fdivD, mulD, addD, subD, negD, absD, intsD, setF, retF, ifF, dropF, dT, asB, asI, dAnd, dOr, dNot, dIf, dAndV, dOrV, dNotV, dTup, mkTup, dLst, mkLst, dChain, Res.bind, List.set, List.getElem?_cons_zero, List.getElem?_cons_succ, List.getElem?_nil, runF, startR, List.map_cons, List.map_nil, List.replicate, List.length_cons, List.length_nil, List.cons_append, List.nil_append, List.append_nil, ordD, eqD, neD, eqB, eqFlat, isD, isN, forF, dIt, dIts, itemsL, itemsT, itemsS, items, listD, tupleD, rng1, rng2, dYes, wipeR, dLc, dNoP, dPart, dSl, slD, slL, ixD, inD, ninD, inB, dTru, truB, strD, dStr, asS, joinD, joinZ, splitD, fmtD, dJoin, dJcons, dJnil, augF, guard_true, guardS_true, and_self, and_true, true_and, isi_of (d := .bl b) rfl kb6]
theorem same_loop {F : List D → Res D} {ds : List D} {a : D} (hix : ∀ (k : Nat) (d : D), ds[k]? = some d → ixD a (.int (k : Int)) = .ok d) (hF : ∀ d ∈ ds, F [d, d] = .ok (.bl true)) : ∀ (m k : Nat) (x : Option D), k + m = ds.length →
    ∃ y, loopF (tgN 2) (Lp_l_same_1 F) ((List.range' k m).map fun i : Nat => D.int (0 + (i : Int))) [some a, some a, x] = .nx [some a, some a, y]
  | 0, k, x, _ => ⟨x, rfl⟩
  | m + 1, k, x, hk => by
    have hlt : k < ds.length := by omega
    have hi := hix k ds[k] (List.getElem?_eq_getElem hlt)
    have hf := hF ds[k] (List.getElem_mem hlt)
    obtain ⟨y, h⟩ := same_loop hix hF m (k + 1) (some (.int (k : Int))) (by omega)
    refine ⟨y, ?_⟩
    rw [List.range'_succ, List.map_cons, loop_nx (r1 := [some a, some a, some (.int (k : Int))]) (r2 := [some a, some a, some (.int (k : Int))]) (by simp [tgN]) _, h]
    simp only [ixD] at hi
    simp [Lp_l_same_1, tgN, tgT, tgNil, tgCons, seqF, appF, stoF, asgF, parF, ownL, liftS, dOp, dUn, dVar, dC, dCall, dCons, dNil, g1, g2, intD, lenD, modD, fdivD, mulD, addD, subD, negD, absD, intsD, setF, retF, ifF, dropF, dT, asB, asI, dAnd, dOr, dNot, dIf, dAndV, dOrV, dNotV, dTup, mkTup, dLst, mkLst, dChain, Res.bind, List.set, List.getElem?_cons_zero, List.getElem?_cons_succ, List.getElem?_nil, runF, startR, List.map_cons, List.map_nil, List.replicate, List.length_cons, List.length_nil, List.cons_append, List.nil_append, List.append_nil, ordD, eqD, neD, eqB, eqFlat, isD, isN, forF, dIt, dIts, itemsL, itemsT, itemsS, items, listD, tupleD, rng1, rng2, dYes, wipeR, dLc, dNoP, dPart, dSl, slD, slL, ixD, inD, ninD, inB, dTru, truB, strD, dStr, asS, joinD, joinZ, splitD, fmtD, dJoin, dJcons, dJnil, augF, guard_true, guardS_true, and_self, and_true, true_and]
    rw [hi]
    simp [Res.bind, hf, asB]
theorem same_tup {n : Nat} {ds : List D} (hl : ds.length < 100000) (hF : ∀ d ∈ ds, F_l_same n [d, d] = .ok (.bl true)) : F_l_same (n + 1) [.tup ds, .tup ds] = .ok (.bl true) := by
  obtain ⟨y, h⟩ := same_loop (F := F_l_same n) (ds := ds) (a := .tup ds) (fun k d hd => by simp [ixD, atI_nat hd]) hF ds.length 0 none (by omega)
  have hb : ((ds.length : Nat) : Int) < 4611686018427387904 := by omega
  have hb' : (-4611686018427387904 : Int) ≤ ((ds.length : Nat) : Int) := by omega
  have hr : rngL 0 ds.length = (List.range' 0 ds.length).map fun i : Nat => D.int (0 + (i : Int)) := by unfold rngL; rw [List.range_eq_range']
  simp [F_l_same, Fb_l_same, tgN, tgT, tgNil, tgCons, seqF, appF, stoF, asgF, parF, ownL, liftS, dOp, dUn, dVar, dC, dCall, dCons, dNil, g1, g2, intD, lenD, modD, fdivD, mulD, addD, subD, negD, absD, intsD, setF, retF, ifF, dropF, dT, asB, asI, dAnd, dOr, dNot, dIf, dAndV, dOrV, dNotV, dTup, mkTup, dLst, mkLst, dChain, Res.bind, List.set, List.getElem?_cons_zero, List.getElem?_cons_succ, List.getElem?_nil, runF, startR, List.map_cons, List.map_nil, List.replicate, List.length_cons, List.length_nil, List.cons_append, List.nil_append, List.append_nil, ordD, eqD, neD, eqB, eqFlat, isD, isN, forF, dIt, dIts, itemsL, itemsT, itemsS, items, listD, tupleD, rng1, rng2, dYes, wipeR, dLc, dNoP, dPart, dSl, slD, slL, ixD, inD, ninD, inB, dTru, truB, strD, dStr, asS, joinD, joinZ, splitD, fmtD, dJoin, dJcons, dJnil, augF, guard_true, guardS_true, and_self, and_true, true_and, isi_of (d := .tup ds) rfl kb7, isi_of (d := .tup ds) rfl kb8, isi_of (d := .tup ds) rfl kb9, isi_of (d := .tup ds) rfl kb10, isi_of (d := .tup ds) rfl kb11, hb, hb']
  rw [hr, h]
theorem same_lst {n : Nat} {ds : List D} (hl : ds.length < 100000) (hF : ∀ d ∈ ds, F_l_same n [d, d] = .ok (.bl true)) : F_l_same (n + 1) [.lst ds, .lst ds] = .ok (.bl true) := by
  obtain ⟨y, h⟩ := same_loop (F := F_l_same n) (ds := ds) (a := .lst ds) (fun k d hd => by simp [ixD, atI_nat hd]) hF ds.length 0 none (by omega)
  have hb : ((ds.length : Nat) : Int) < 4611686018427387904 := by omega
  have hb' : (-4611686018427387904 : Int) ≤ ((ds.length : Nat) : Int) := by omega
  have hr : rngL 0 ds.length = (List.range' 0 ds.length).map fun i : Nat => D.int (0 + (i : Int)) := by unfold rngL; rw [List.range_eq_range']
  simp [F_l_same, Fb_l_same, tgN, tgT, tgNil, tgCons, seqF, appF, stoF, asgF, parF, ownL, liftS, dOp, dUn, dVar, dC, dCall, dCons, dNil, g1, g2, intD, lenD, modD, fdivD, mulD, addD, subD, negD, absD, intsD, setF, retF, ifF, dropF, dT, asB, asI, dAnd, dOr, dNot, dIf, dAndV, dOrV, dNotV, dTup, mkTup, dLst, mkLst, dChain, Res.bind, List.set, List.getElem?_cons_zero, List.getElem?_cons_succ, List.getElem?_nil, runF, startR, List.map_cons, List.map_nil, List.replicate, List.length_cons, List.length_nil, List.cons_append, List.nil_append, List.append_nil, ordD, eqD, neD, eqB, eqFlat, isD, isN, forF, dIt, dIts, itemsL, itemsT, itemsS, items, listD, tupleD, rng1, rng2, dYes, wipeR, dLc, dNoP, dPart, dSl, slD, slL, ixD, inD, ninD, inB, dTru, truB, strD, dStr, asS, joinD, joinZ, splitD, fmtD, dJoin, dJcons, dJnil, augF, guard_true, guardS_true, and_self, and_true, true_and, isi_of (d := .lst ds) rfl kb12, isi_of (d := .lst ds) rfl kb13, isi_of (d := .lst ds) rfl kb14, isi_of (d := .lst ds) rfl kb15, isi_of (d := .lst ds) rfl kb16, hb, hb']
  rw [hr, h]
end Lk

end S_M_same
section S_M_plc
set_option linter.all false
set_option maxHeartbeats 2000000
set_option maxRecDepth 100000
namespace Lk
open PySem L2 Dx TL
/-! ### a text cut at its dots -/
theorem tl_dot : tl ("." : Str) = [46] := by decide +kernel
theorem parts_eq (w : Str) : (Txt.split w ".").map tl = spl [46] 0 [] (tl w) := by
  rw [split_spl w "." (by rw [tl_dot]; simp) (kind_ok (by decide +kernel)), tl_dot]
theorem pre_dot (c : Nat) (r : List Nat) : pre [46] (c :: r) = (c == 46) := by
  unfold pre
  simp
theorem spl_dot (acc : List Nat) (c : Nat) (r : List Nat) : spl [46] 0 acc (c :: r) = if c = 46 then acc :: spl [46] 0 [] r else spl [46] 0 (acc ++ [c]) r := by
  by_cases h : c = 46
  · rw [if_pos h, spl_hit (by rw [pre_dot]; simp [h])]; rfl
  · rw [if_neg h, spl_miss (by rw [pre_dot]; simp [h])]
theorem spl_count : ∀ (l acc : List Nat), (spl [46] 0 acc l).length = l.count 46 + 1
  | [], acc => by rw [spl_nil]; rfl
  | c :: r, acc => by
    rw [spl_dot]
    by_cases h : c = 46
    · rw [if_pos h, List.length_cons, spl_count r []]; simp [h]
    · rw [if_neg h, spl_count r]; simp [h]
theorem spl_short : ∀ (l acc p : List Nat), p ∈ spl [46] 0 acc l → p.length ≤ acc.length + l.length
  | [], acc, p, h => by rw [spl_nil] at h; simp at h; subst h; simp
  | c :: r, acc, p, h => by
    rw [spl_dot] at h
    by_cases hc : c = 46
    · rw [if_pos hc] at h
      rcases List.mem_cons.mp h with h | h
      · subst h; simp
      · have := spl_short r [] p h; simp at this ⊢; omega
    · rw [if_neg hc] at h
      have := spl_short r (acc ++ [c]) p h
      simp at this ⊢; omega
theorem parts_len (w : Str) : (Txt.split w ".").length = (tl w).count 46 + 1 := by
  have := congrArg List.length (parts_eq w)
  rw [List.length_map, spl_count] at this
  exact this
theorem part_short (w p : Str) (h : p ∈ Txt.split w ".") : p.length ≤ w.length := by
  have h1 : tl p ∈ (Txt.split w ".").map tl := List.mem_map.mpr ⟨p, h, rfl⟩
  rw [parts_eq] at h1
  have := spl_short _ _ _ h1
  rw [len_tl, len_tl w]
  simpa using this
/-- the values of the parts -/
def pvs : List Str → Option (List Int)
  | [] => some []
  | s :: ss => match pvL (tl s), pvs ss with
    | some n, some ns => some (n :: ns)
    | _, _ => none
theorem pvs_len : ∀ {ss : List Str} {ns : List Int}, pvs ss = some ns → ns.length = ss.length
  | [], _, h => by cases h; rfl
  | s :: ss, _, h => by
    unfold pvs at h
    cases h1 : pvL (tl s) with
    | none => rw [h1] at h; cases h
    | some n =>
      cases h2 : pvs ss with
      | none => rw [h1, h2] at h; cases h
      | some ns => rw [h1, h2] at h; cases h; simp [pvs_len h2]
theorem sz5 : (100000 : Nat) ≤ sizeLine := by decide
/-! ### read_place -/
theorem rp_loop (w : Str) : ∀ (ss : List Str) (acc : List Int) (x2 x3 : Option D), (∀ s ∈ ss, s.length ≤ sizeLine) → acc.length + ss.length < 100000 →
    (∃ ns y2 y3, pvs ss = some ns ∧ loopF (tgN 2) Lp_read_place_1 (strsD ss) [some (.str w), some (iL acc), x2, x3] = .nx [some (.str w), some (iL (acc ++ ns)), y2, y3]) ∨
    (∃ r, pvs ss = none ∧ loopF (tgN 2) Lp_read_place_1 (strsD ss) [some (.str w), some (iL acc), x2, x3] = .er r "BadValue" ["text"] [.str w])
  | [], acc, x2, x3, _, _ => .inl ⟨[], x2, x3, rfl, by simp [strsD, loopF]⟩
  | s :: ss, acc, x2, x3, hs, hn => by
    have h1 := dv_eq s (hs s (by simp))
    have hsz : acc.length < sizeLine := Nat.lt_of_lt_of_le (by simp at hn; omega) sz5
    cases hp : pvL (tl s) with
    | none =>
      right
      refine ⟨[some (.str w), some (iL acc), some (.str s), some .non], by unfold pvs; rw [hp], ?_⟩
      rw [show strsD (s :: ss) = D.str s :: strsD ss from rfl, loop_er (r1 := [some (.str w), some (iL acc), some (.str s), x3]) rfl]
      have : pvD s = .non := by unfold pvD; rw [hp]
      simp [Lp_read_place_1, tgN, tgT, tgNil, tgCons, seqF, appF, stoF, asgF, parF, ownL, liftS, dOp, dUn, dVar, dC, dCall, dCons, dNil, g1, g2, intD, lenD, modD, fdivD, mulD, addD, subD, negD, absD, intsD, setF, retF, ifF, dropF, dT, asB, asI, dAnd, dOr, dNot, dIf, dAndV, dOrV, dNotV, dTup, mkTup, dLst, mkLst, dChain, Res.bind, List.set, List.getElem?_cons_zero, List.getElem?_cons_succ, List.getElem?_nil, runF, startR, List.map_cons, List.map_nil, List.replicate, List.length_cons, List.length_nil, List.cons_append, List.nil_append, List.append_nil, ordD, eqD, neD, eqB, eqFlat, isD, isN, forF, dIt, dIts, itemsL, itemsT, itemsS, items, listD, tupleD, rng1, rng2, dYes, wipeR, dLc, dNoP, dPart, dSl, slD, slL, ixD, inD, ninD, inB, dTru, truB, strD, dStr, asS, joinD, joinZ, splitD, fmtD, dJoin, dJcons, dJnil, augF, guard_true, guardS_true, and_self, and_true, true_and, h1, this, raiF]
    | some n =>
      have hpd : pvD s = .int n := by unfold pvD; rw [hp]
      have step : Lp_read_place_1 [some (.str w), some (iL acc), some (.str s), x3] = .nx [some (.str w), some (iL (acc ++ [n])), some (.str s), some (.int n)] := by
        simp [Lp_read_place_1, tgN, tgT, tgNil, tgCons, seqF, appF, stoF, asgF, parF, ownL, liftS, dOp, dUn, dVar, dC, dCall, dCons, dNil, g1, g2, intD, lenD, modD, fdivD, mulD, addD, subD, negD, absD, intsD, setF, retF, ifF, dropF, dT, asB, asI, dAnd, dOr, dNot, dIf, dAndV, dOrV, dNotV, dTup, mkTup, dLst, mkLst, dChain, Res.bind, List.set, List.getElem?_cons_zero, List.getElem?_cons_succ, List.getElem?_nil, runF, startR, List.map_cons, List.map_nil, List.replicate, List.length_cons, List.length_nil, List.cons_append, List.nil_append, List.append_nil, ordD, eqD, neD, eqB, eqFlat, isD, isN, forF, dIt, dIts, itemsL, itemsT, itemsS, items, listD, tupleD, rng1, rng2, dYes, wipeR, dLc, dNoP, dPart, dSl, slD, slL, ixD, inD, ninD, inB, dTru, truB, strD, dStr, asS, joinD, joinZ, splitD, fmtD, dJoin, dJcons, dJnil, augF, guard_true, guardS_true, and_self, and_true, true_and, h1, hpd, hsz]
      rcases rp_loop w ss (acc ++ [n]) (some (.str s)) (some (.int n)) (fun x hx => hs x (by simp [hx])) (by simp at hn ⊢; omega) with ⟨ns, y2, y3, q1, q2⟩ | ⟨r, q1, q2⟩
      · left
        refine ⟨n :: ns, y2, y3, by unfold pvs; rw [hp, q1], ?_⟩
        rw [show strsD (s :: ss) = D.str s :: strsD ss from rfl, loop_nx (r1 := [some (.str w), some (iL acc), some (.str s), x3]) rfl step, q2]
        simp
      · right
        refine ⟨r, by unfold pvs; rw [hp, q1], ?_⟩
        rw [show strsD (s :: ss) = D.str s :: strsD ss from rfl, loop_nx (r1 := [some (.str w), some (iL acc), some (.str s), x3]) rfl step, q2]
abbrev iT (ns : List Int) : D := .tup (ns.map D.int)
/-- what is read of a text -/
def plc (w : Str) : Option (List Int) := if w = "root" then some [] else pvs (Txt.split w ".")
theorem rp_eq (w : Str) (hw : w.length < 1000) (hc : (tl w).count 46 < 12) : F_read_place [.str w] = match plc w with
    | some ns => .ok (iT ns)
    | none => .err "BadValue" ["text"] [.str w] := by
  unfold plc
  by_cases h0 : w = "root"
  · rw [if_pos h0]
    simp [F_read_place, Fb_read_place, tgN, tgT, tgNil, tgCons, seqF, appF, stoF, asgF, parF, ownL, liftS, dOp, dUn, dVar, dC, dCall, dCons, dNil, g1, g2, intD, lenD, modD, fdivD, mulD, addD, subD, negD, absD, intsD, setF, retF, ifF, dropF, dT, asB, asI, dAnd, dOr, dNot, dIf, dAndV, dOrV, dNotV, dTup, mkTup, dLst, mkLst, dChain, Res.bind, List.set, List.getElem?_cons_zero, List.getElem?_cons_succ, List.getElem?_nil, runF, startR, List.map_cons, List.map_nil, List.replicate, List.length_cons, List.length_nil, List.cons_append, List.nil_append, List.append_nil, ordD, eqD, neD, eqB, eqFlat, isD, isN, forF, dIt, dIts, itemsL, itemsT, itemsS, items, listD, tupleD, rng1, rng2, dYes, wipeR, dLc, dNoP, dPart, dSl, slD, slL, ixD, inD, ninD, inB, dTru, truB, strD, dStr, asS, joinD, joinZ, splitD, fmtD, dJoin, dJcons, dJnil, augF, guard_true, guardS_true, and_self, and_true, true_and, h0]
  · rw [if_neg h0]
    have hpl := parts_len w
    have hs2 : w.length + 2 ≤ sizeLine := Nat.le_trans (by omega) sz5
    have hd : ("." : Str).length ≠ 0 := by decide +kernel
    rcases rp_loop w (Txt.split w ".") [] none none (fun s h => Nat.le_trans (part_short w s h) (Nat.le_trans (by omega) sz5)) (by simp; omega) with ⟨ns, y2, y3, q1, q2⟩ | ⟨r, q1, q2⟩
    · rw [q1]
      have hl := pvs_len q1
      have h12 : ¬ (12 : Int) < ((ns.length : Nat) : Int) := by omega
      simp [F_read_place, Fb_read_place, tgN, tgT, tgNil, tgCons, seqF, appF, stoF, asgF, parF, ownL, liftS, dOp, dUn, dVar, dC, dCall, dCons, dNil, g1, g2, intD, lenD, modD, fdivD, mulD, addD, subD, negD, absD, intsD, setF, retF, ifF, dropF, dT, asB, asI, dAnd, dOr, dNot, dIf, dAndV, dOrV, dNotV, dTup, mkTup, dLst, mkLst, dChain, Res.bind, List.set, List.getElem?_cons_zero, List.getElem?_cons_succ, List.getElem?_nil, runF, startR, List.map_cons, List.map_nil, List.replicate, List.length_cons, List.length_nil, List.cons_append, List.nil_append, List.append_nil, ordD, eqD, neD, eqB, eqFlat, isD, isN, forF, dIt, dIts, itemsL, itemsT, itemsS, items, listD, tupleD, rng1, rng2, dYes, wipeR, dLc, dNoP, dPart, dSl, slD, slL, ixD, inD, ninD, inB, dTru, truB, strD, dStr, asS, joinD, joinZ, splitD, fmtD, dJoin, dJcons, dJnil, augF, guard_true, guardS_true, and_self, and_true, true_and, h0, hs2, hd]
      rw [show (D.lst [] : D) = iL [] from rfl, q2]
      simp [tgN, tgT, tgNil, tgCons, seqF, appF, stoF, asgF, parF, ownL, liftS, dOp, dUn, dVar, dC, dCall, dCons, dNil, g1, g2, intD, lenD, modD, fdivD, mulD, addD, subD, negD, absD, intsD, setF, retF, ifF, dropF, dT, asB, asI, dAnd, dOr, dNot, dIf, dAndV, dOrV, dNotV, dTup, mkTup, dLst, mkLst, dChain, Res.bind, List.set, List.getElem?_cons_zero, List.getElem?_cons_succ, List.getElem?_nil, runF, startR, List.map_cons, List.map_nil, List.replicate, List.length_cons, List.length_nil, List.cons_append, List.nil_append, List.append_nil, ordD, eqD, neD, eqB, eqFlat, isD, isN, forF, dIt, dIts, itemsL, itemsT, itemsS, items, listD, tupleD, rng1, rng2, dYes, wipeR, dLc, dNoP, dPart, dSl, slD, slL, ixD, inD, ninD, inB, dTru, truB, strD, dStr, asS, joinD, joinZ, splitD, fmtD, dJoin, dJcons, dJnil, augF, guard_true, guardS_true, and_self, and_true, true_and, h12]
    · rw [q1]
      simp [F_read_place, Fb_read_place, tgN, tgT, tgNil, tgCons, seqF, appF, stoF, asgF, parF, ownL, liftS, dOp, dUn, dVar, dC, dCall, dCons, dNil, g1, g2, intD, lenD, modD, fdivD, mulD, addD, subD, negD, absD, intsD, setF, retF, ifF, dropF, dT, asB, asI, dAnd, dOr, dNot, dIf, dAndV, dOrV, dNotV, dTup, mkTup, dLst, mkLst, dChain, Res.bind, List.set, List.getElem?_cons_zero, List.getElem?_cons_succ, List.getElem?_nil, runF, startR, List.map_cons, List.map_nil, List.replicate, List.length_cons, List.length_nil, List.cons_append, List.nil_append, List.append_nil, ordD, eqD, neD, eqB, eqFlat, isD, isN, forF, dIt, dIts, itemsL, itemsT, itemsS, items, listD, tupleD, rng1, rng2, dYes, wipeR, dLc, dNoP, dPart, dSl, slD, slL, ixD, inD, ninD, inB, dTru, truB, strD, dStr, asS, joinD, joinZ, splitD, fmtD, dJoin, dJcons, dJnil, augF, guard_true, guardS_true, and_self, and_true, true_and, h0, hs2, hd]
      rw [show (D.lst [] : D) = iL [] from rfl, q2]
/-! ### the law's reading -/
theorem lp_inner (w : Str) (A : D) (s : Str) : ∀ n : Nat, Lp_l_place_1 [some (.str w), some A, some (.str s), some (.str ⟨#[n]⟩)] = if isDg n = true then .nx [some (.str w), some A, some (.str s), some (.str ⟨#[n]⟩)] else .rt .non := fun n => by
  simp [Lp_l_place_1, tgN, tgT, tgNil, tgCons, seqF, appF, stoF, asgF, parF, ownL, liftS, dOp, dUn, dVar, dC, dCall, dCons, dNil, g1, g2, intD, lenD, modD, fdivD, mulD, addD, subD, negD, absD, intsD, setF, retF, ifF, dropF, dT, asB, asI, dAnd, dOr, dNot, dIf, dAndV, dOrV, dNotV, dTup, mkTup, dLst, mkLst, dChain, Res.bind, List.set, List.getElem?_cons_zero, List.getElem?_cons_succ, List.getElem?_nil, runF, startR, List.map_cons, List.map_nil, List.replicate, List.length_cons, List.length_nil, List.cons_append, List.nil_append, List.append_nil, ordD, eqD, neD, eqB, eqFlat, isD, isN, forF, dIt, dIts, itemsL, itemsT, itemsS, items, listD, tupleD, rng1, rng2, dYes, wipeR, dLc, dNoP, dPart, dSl, slD, slL, ixD, inD, ninD, inB, dTru, truB, strD, dStr, asS, joinD, joinZ, splitD, fmtD, dJoin, dJcons, dJnil, augF, guard_true, guardS_true, and_self, and_true, true_and, in_ten]
  cases isDg n <;> rfl
theorem lp_part (w s : Str) (acc : List Int) (x3 : Option D) (hs : s.length ≤ sizeLine) (hn : acc.length < sizeLine) :
    (∃ n y, pvL (tl s) = some n ∧ Lp_l_place_2 [some (.str w), some (iL acc), some (.str s), x3] = .nx [some (.str w), some (iL (acc ++ [n])), some (.str s), y]) ∨
    (pvL (tl s) = none ∧ Lp_l_place_2 [some (.str w), some (iL acc), some (.str s), x3] = .rt .non) := by
  have hlen : s.length = (tl s).length := len_tl s
  have hsg : signs s = (tl s).map fun n => D.str ⟨#[n]⟩ := rfl
  have hl := sg_loop (t := tgN 3) (F := Lp_l_place_1) (E := fun x => [some (.str w), some (iL acc), some (.str s), x]) (fun _ _ => rfl) (lp_inner w (iL acc) s) (tl s) x3
  have pN : (tl s = [] ∨ 12 < (tl s).length ∨ (tl s).all isDg = false ∨ (1 < (tl s).length ∧ (tl s).head? = some 48)) → pvL (tl s) = none := fun h => by unfold pvL; rw [if_pos h]
  have pS : ¬ (tl s = [] ∨ 12 < (tl s).length ∨ (tl s).all isDg = false ∨ (1 < (tl s).length ∧ (tl s).head? = some 48)) → pvL (tl s) = some ((NumText.digitsVal (tl s) : Nat) : Int) := fun h => by unfold pvL; rw [if_neg h]
  by_cases h0 : tl s = []
  · exact .inr ⟨pN (.inl h0), by simp [Lp_l_place_2, tgN, tgT, tgNil, tgCons, seqF, appF, stoF, asgF, parF, ownL, liftS, dOp, dUn, dVar, dC, dCall, dCons, dNil, g1, g2, intD, lenD, modD, fdivD, mulD, addD, subD, negD, absD, intsD, setF, retF, ifF, dropF, dT, asB, asI, dAnd, dOr, dNot, dIf, dAndV, dOrV, dNotV, dTup, mkTup, dLst, mkLst, dChain, Res.bind, List.set, List.getElem?_cons_zero, List.getElem?_cons_succ, List.getElem?_nil, runF, startR, List.map_cons, List.map_nil, List.replicate, List.length_cons, List.length_nil, List.cons_append, List.nil_append, List.append_nil, ordD, eqD, neD, eqB, eqFlat, isD, isN, forF, dIt, dIts, itemsL, itemsT, itemsS, items, listD, tupleD, rng1, rng2, dYes, wipeR, dLc, dNoP, dPart, dSl, slD, slL, ixD, inD, ninD, inB, dTru, truB, strD, dStr, asS, joinD, joinZ, splitD, fmtD, dJoin, dJcons, dJnil, augF, guard_true, guardS_true, and_self, and_true, true_and, eq_empty, h0, hs]⟩
  by_cases h12 : 12 < s.length
  · have : (12 : Int) < (s.length : Int) := by omega
    exact .inr ⟨pN (.inr (.inl (by omega))), by simp [Lp_l_place_2, tgN, tgT, tgNil, tgCons, seqF, appF, stoF, asgF, parF, ownL, liftS, dOp, dUn, dVar, dC, dCall, dCons, dNil, g1, g2, intD, lenD, modD, fdivD, mulD, addD, subD, negD, absD, intsD, setF, retF, ifF, dropF, dT, asB, asI, dAnd, dOr, dNot, dIf, dAndV, dOrV, dNotV, dTup, mkTup, dLst, mkLst, dChain, Res.bind, List.set, List.getElem?_cons_zero, List.getElem?_cons_succ, List.getElem?_nil, runF, startR, List.map_cons, List.map_nil, List.replicate, List.length_cons, List.length_nil, List.cons_append, List.nil_append, List.append_nil, ordD, eqD, neD, eqB, eqFlat, isD, isN, forF, dIt, dIts, itemsL, itemsT, itemsS, items, listD, tupleD, rng1, rng2, dYes, wipeR, dLc, dNoP, dPart, dSl, slD, slL, ixD, inD, ninD, inB, dTru, truB, strD, dStr, asS, joinD, joinZ, splitD, fmtD, dJoin, dJcons, dJnil, augF, guard_true, guardS_true, and_self, and_true, true_and, eq_empty, h0, hs, this]⟩
  have h12' : ¬ (12 : Int) < (s.length : Int) := by omega
  have tail : ∀ (hz : ¬ (1 < (tl s).length ∧ (tl s).head? = some 48)), (dAnd (dT (dOp gtD (dCall (g1 lenD) (dCons (dVar 2) dNil)) (dC (.int 1)))) (dT (dOp eqD (dOp ixD (dVar 2) (dC (.int 0))) (dC (.str "0"))))) [some (.str w), some (iL acc), some (.str s), x3] = .ok false := fun hz => by
    by_cases h1 : 1 < s.length
    · have h1' : (1 : Int) < (s.length : Int) := by omega
      obtain ⟨n, r, e, hat⟩ := head_dec s (by omega)
      have hn48 : n ≠ 48 := fun z => hz ⟨by omega, by rw [e, z]; rfl⟩
      simp [tgN, tgT, tgNil, tgCons, seqF, appF, stoF, asgF, parF, ownL, liftS, dOp, dUn, dVar, dC, dCall, dCons, dNil, g1, g2, intD, lenD, modD, fdivD, mulD, addD, subD, negD, absD, intsD, setF, retF, ifF, dropF, dT, asB, asI, dAnd, dOr, dNot, dIf, dAndV, dOrV, dNotV, dTup, mkTup, dLst, mkLst, dChain, Res.bind, List.set, List.getElem?_cons_zero, List.getElem?_cons_succ, List.getElem?_nil, runF, startR, List.map_cons, List.map_nil, List.replicate, List.length_cons, List.length_nil, List.cons_append, List.nil_append, List.append_nil, ordD, eqD, neD, eqB, eqFlat, isD, isN, forF, dIt, dIts, itemsL, itemsT, itemsS, items, listD, tupleD, rng1, rng2, dYes, wipeR, dLc, dNoP, dPart, dSl, slD, slL, ixD, inD, ninD, inB, dTru, truB, strD, dStr, asS, joinD, joinZ, splitD, fmtD, dJoin, dJcons, dJnil, augF, guard_true, guardS_true, and_self, and_true, true_and, hs, h1', hat, one_eq, hn48]
    · have h1' : ¬ (1 : Int) < (s.length : Int) := by omega
      simp [tgN, tgT, tgNil, tgCons, seqF, appF, stoF, asgF, parF, ownL, liftS, dOp, dUn, dVar, dC, dCall, dCons, dNil, g1, g2, intD, lenD, modD, fdivD, mulD, addD, subD, negD, absD, intsD, setF, retF, ifF, dropF, dT, asB, asI, dAnd, dOr, dNot, dIf, dAndV, dOrV, dNotV, dTup, mkTup, dLst, mkLst, dChain, Res.bind, List.set, List.getElem?_cons_zero, List.getElem?_cons_succ, List.getElem?_nil, runF, startR, List.map_cons, List.map_nil, List.replicate, List.length_cons, List.length_nil, List.cons_append, List.nil_append, List.append_nil, ordD, eqD, neD, eqB, eqFlat, isD, isN, forF, dIt, dIts, itemsL, itemsT, itemsS, items, listD, tupleD, rng1, rng2, dYes, wipeR, dLc, dNoP, dPart, dSl, slD, slL, ixD, inD, ninD, inB, dTru, truB, strD, dStr, asS, joinD, joinZ, splitD, fmtD, dJoin, dJcons, dJnil, augF, guard_true, guardS_true, and_self, and_true, true_and, hs, h1']
  by_cases hz : 1 < (tl s).length ∧ (tl s).head? = some 48
  · refine .inr ⟨pN (.inr (.inr (.inr hz))), ?_⟩
    obtain ⟨n, r, e, hat⟩ := head_dec s hz.1
    have hn48 : n = 48 := by have := hz.2; rw [e] at this; simpa using this
    have h1' : (1 : Int) < (s.length : Int) := by omega
    simp [Lp_l_place_2, tgN, tgT, tgNil, tgCons, seqF, appF, stoF, asgF, parF, ownL, liftS, dOp, dUn, dVar, dC, dCall, dCons, dNil, g1, g2, intD, lenD, modD, fdivD, mulD, addD, subD, negD, absD, intsD, setF, retF, ifF, dropF, dT, asB, asI, dAnd, dOr, dNot, dIf, dAndV, dOrV, dNotV, dTup, mkTup, dLst, mkLst, dChain, Res.bind, List.set, List.getElem?_cons_zero, List.getElem?_cons_succ, List.getElem?_nil, runF, startR, List.map_cons, List.map_nil, List.replicate, List.length_cons, List.length_nil, List.cons_append, List.nil_append, List.append_nil, ordD, eqD, neD, eqB, eqFlat, isD, isN, forF, dIt, dIts, itemsL, itemsT, itemsS, items, listD, tupleD, rng1, rng2, dYes, wipeR, dLc, dNoP, dPart, dSl, slD, slL, ixD, inD, ninD, inB, dTru, truB, strD, dStr, asS, joinD, joinZ, splitD, fmtD, dJoin, dJcons, dJnil, augF, guard_true, guardS_true, and_self, and_true, true_and, eq_empty, h0, hs, h12', h1', hat, one_eq, hn48]
  · have tz := tail hz
    have c1 : dOr (dT (dOp eqD (dVar 2) (dC (.str "")))) (dOr (dT (dOp gtD (dCall (g1 lenD) (dCons (dVar 2) dNil)) (dC (.int 12)))) (dAnd (dT (dOp gtD (dCall (g1 lenD) (dCons (dVar 2) dNil)) (dC (.int 1)))) (dT (dOp eqD (dOp ixD (dVar 2) (dC (.int 0))) (dC (.str "0")))))) [some (.str w), some (iL acc), some (.str s), x3] = .ok false := by
      unfold dOr
      rw [tz]
      simp [tgN, tgT, tgNil, tgCons, seqF, appF, stoF, asgF, parF, ownL, liftS, dOp, dUn, dVar, dC, dCall, dCons, dNil, g1, g2, intD, lenD, modD, fdivD, mulD, addD, subD, negD, absD, intsD, setF, retF, ifF, dropF, dT, asB, asI, dAnd, dOr, dNot, dIf, dAndV, dOrV, dNotV, dTup, mkTup, dLst, mkLst, dChain, Res.bind, List.set, List.getElem?_cons_zero, List.getElem?_cons_succ, List.getElem?_nil, runF, startR, List.map_cons, List.map_nil, List.replicate, List.length_cons, List.length_nil, List.cons_append, List.nil_append, List.append_nil, ordD, eqD, neD, eqB, eqFlat, isD, isN, forF, dIt, dIts, itemsL, itemsT, itemsS, items, listD, tupleD, rng1, rng2, dYes, wipeR, dLc, dNoP, dPart, dSl, slD, slL, ixD, inD, ninD, inB, dTru, truB, strD, dStr, asS, joinD, joinZ, splitD, fmtD, dJoin, dJcons, dJnil, augF, guard_true, guardS_true, and_self, and_true, true_and, eq_empty, h0, hs, h12']
    rcases hl with ⟨ha, y, hl⟩ | ⟨ha, hl⟩
    · refine .inl ⟨_, y, pS (by
        rintro (h | h | h | h)
        · exact h0 h
        · omega
        · rw [ha] at h; cases h
        · exact hz h), ?_⟩
      have hi := intT s ha h0 (by omega)
      have h640 : s.length ≤ 640 := by omega
      rw [Lp_l_place_2, seq_nx (if_f c1), seq_nx ((for_ok (ds := (tl s).map fun n => D.str ⟨#[n]⟩) (by simp [tgN, tgT, tgNil, tgCons, seqF, appF, stoF, asgF, parF, ownL, liftS, dOp, dUn, dVar, dC, dCall, dCons, dNil, g1, g2, intD, lenD, modD, fdivD, mulD, addD, subD, negD, absD, intsD, setF, retF, ifF, dropF, dT, asB, asI, dAnd, dOr, dNot, dIf, dAndV, dOrV, dNotV, dTup, mkTup, dLst, mkLst, dChain, Res.bind, List.set, List.getElem?_cons_zero, List.getElem?_cons_succ, List.getElem?_nil, runF, startR, List.map_cons, List.map_nil, List.replicate, List.length_cons, List.length_nil, List.cons_append, List.nil_append, List.append_nil, ordD, eqD, neD, eqB, eqFlat, isD, isN, forF, dIt, dIts, itemsL, itemsT, itemsS, items, listD, tupleD, rng1, rng2, dYes, wipeR, dLc, dNoP, dPart, dSl, slD, slL, ixD, inD, ninD, inB, dTru, truB, strD, dStr, asS, joinD, joinZ, splitD, fmtD, dJoin, dJcons, dJnil, augF, guard_true, guardS_true, and_self, and_true, true_and, hsg])).trans hl), app_ok (ds := acc.map D.int) (d := .int ((NumText.digitsVal (tl s) : Nat) : Int)) rfl (by simp [tgN, tgT, tgNil, tgCons, seqF, appF, stoF, asgF, parF, ownL, liftS, dOp, dUn, dVar, dC, dCall, dCons, dNil, g1, g2, intD, lenD, modD, fdivD, mulD, addD, subD, negD, absD, intsD, setF, retF, ifF, dropF, dT, asB, asI, dAnd, dOr, dNot, dIf, dAndV, dOrV, dNotV, dTup, mkTup, dLst, mkLst, dChain, Res.bind, List.set, List.getElem?_cons_zero, List.getElem?_cons_succ, List.getElem?_nil, runF, startR, List.map_cons, List.map_nil, List.replicate, List.length_cons, List.length_nil, List.cons_append, List.nil_append, List.append_nil, ordD, eqD, neD, eqB, eqFlat, isD, isN, forF, dIt, dIts, itemsL, itemsT, itemsS, items, listD, tupleD, rng1, rng2, dYes, wipeR, dLc, dNoP, dPart, dSl, slD, slL, ixD, inD, ninD, inB, dTru, truB, strD, dStr, asS, joinD, joinZ, splitD, fmtD, dJoin, dJcons, dJnil, augF, guard_true, guardS_true, and_self, and_true, true_and, hi, h640]) (by rw [List.length_map]; exact hn)]
      simp [iL]
    · refine .inr ⟨pN (.inr (.inr (.inl ha))), ?_⟩
      rw [Lp_l_place_2, seq_nx (if_f c1), seq_rt ((for_ok (ds := (tl s).map fun n => D.str ⟨#[n]⟩) (by simp [tgN, tgT, tgNil, tgCons, seqF, appF, stoF, asgF, parF, ownL, liftS, dOp, dUn, dVar, dC, dCall, dCons, dNil, g1, g2, intD, lenD, modD, fdivD, mulD, addD, subD, negD, absD, intsD, setF, retF, ifF, dropF, dT, asB, asI, dAnd, dOr, dNot, dIf, dAndV, dOrV, dNotV, dTup, mkTup, dLst, mkLst, dChain, Res.bind, List.set, List.getElem?_cons_zero, List.getElem?_cons_succ, List.getElem?_nil, runF, startR, List.map_cons, List.map_nil, List.replicate, List.length_cons, List.length_nil, List.cons_append, List.nil_append, List.append_nil, ordD, eqD, neD, eqB, eqFlat, isD, isN, forF, dIt, dIts, itemsL, itemsT, itemsS, items, listD, tupleD, rng1, rng2, dYes, wipeR, dLc, dNoP, dPart, dSl, slD, slL, ixD, inD, ninD, inB, dTru, truB, strD, dStr, asS, joinD, joinZ, splitD, fmtD, dJoin, dJcons, dJnil, augF, guard_true, guardS_true, and_self, and_true, true_and, hsg])).trans hl)]
theorem lp_loop (w : Str) : ∀ (ss : List Str) (acc : List Int) (x2 x3 : Option D), (∀ s ∈ ss, s.length ≤ sizeLine) → acc.length + ss.length < 100000 →
    (∃ ns y2 y3, pvs ss = some ns ∧ loopF (tgN 2) Lp_l_place_2 (strsD ss) [some (.str w), some (iL acc), x2, x3] = .nx [some (.str w), some (iL (acc ++ ns)), y2, y3]) ∨
    (pvs ss = none ∧ loopF (tgN 2) Lp_l_place_2 (strsD ss) [some (.str w), some (iL acc), x2, x3] = .rt .non)
  | [], acc, x2, x3, _, _ => .inl ⟨[], x2, x3, rfl, by simp [strsD, loopF]⟩
  | s :: ss, acc, x2, x3, hs, hn => by
    have hsz : acc.length < sizeLine := Nat.lt_of_lt_of_le (by simp at hn; omega) sz5
    rcases lp_part w s acc x3 (hs s (by simp)) hsz with ⟨n, y, hp, step⟩ | ⟨hp, step⟩
    · rcases lp_loop w ss (acc ++ [n]) (some (.str s)) y (fun x hx => hs x (by simp [hx])) (by simp at hn ⊢; omega) with ⟨ns, y2, y3, q1, q2⟩ | ⟨q1, q2⟩
      · refine .inl ⟨n :: ns, y2, y3, by unfold pvs; rw [hp, q1], ?_⟩
        rw [show strsD (s :: ss) = D.str s :: strsD ss from rfl, loop_nx (r1 := [some (.str w), some (iL acc), some (.str s), x3]) rfl step, q2]
        simp
      · refine .inr ⟨by unfold pvs; rw [hp, q1], ?_⟩
        rw [show strsD (s :: ss) = D.str s :: strsD ss from rfl, loop_nx (r1 := [some (.str w), some (iL acc), some (.str s), x3]) rfl step, q2]
    · refine .inr ⟨by unfold pvs; rw [hp], ?_⟩
      rw [show strsD (s :: ss) = D.str s :: strsD ss from rfl, loop_rt (r1 := [some (.str w), some (iL acc), some (.str s), x3]) rfl step]
theorem lp_eq (w : Str) (hw : w.length < 1000) (hc : (tl w).count 46 < 12) : F_l_place [.str w] = match plc w with
    | some ns => .ok (iT ns)
    | none => .ok .non := by
  unfold plc
  by_cases h0 : w = "root"
  · rw [if_pos h0]
    simp [F_l_place, Fb_l_place, tgN, tgT, tgNil, tgCons, seqF, appF, stoF, asgF, parF, ownL, liftS, dOp, dUn, dVar, dC, dCall, dCons, dNil, g1, g2, intD, lenD, modD, fdivD, mulD, addD, subD, negD, absD, intsD, setF, retF, ifF, dropF, dT, asB, asI, dAnd, dOr, dNot, dIf, dAndV, dOrV, dNotV, dTup, mkTup, dLst, mkLst, dChain, Res.bind, List.set, List.getElem?_cons_zero, List.getElem?_cons_succ, List.getElem?_nil, runF, startR, List.map_cons, List.map_nil, List.replicate, List.length_cons, List.length_nil, List.cons_append, List.nil_append, List.append_nil, ordD, eqD, neD, eqB, eqFlat, isD, isN, forF, dIt, dIts, itemsL, itemsT, itemsS, items, listD, tupleD, rng1, rng2, dYes, wipeR, dLc, dNoP, dPart, dSl, slD, slL, ixD, inD, ninD, inB, dTru, truB, strD, dStr, asS, joinD, joinZ, splitD, fmtD, dJoin, dJcons, dJnil, augF, guard_true, guardS_true, and_self, and_true, true_and, h0]
  · rw [if_neg h0]
    have hpl := parts_len w
    have hs2 : w.length + 2 ≤ sizeLine := Nat.le_trans (by omega) sz5
    have hd : ("." : Str).length ≠ 0 := by decide +kernel
    rcases lp_loop w (Txt.split w ".") [] none none (fun s h => Nat.le_trans (part_short w s h) (Nat.le_trans (by omega) sz5)) (by simp; omega) with ⟨ns, y2, y3, q1, q2⟩ | ⟨q1, q2⟩
    · rw [q1]
      simp [F_l_place, Fb_l_place, tgN, tgT, tgNil, tgCons, seqF, appF, stoF, asgF, parF, ownL, liftS, dOp, dUn, dVar, dC, dCall, dCons, dNil, g1, g2, intD, lenD, modD, fdivD, mulD, addD, subD, negD, absD, intsD, setF, retF, ifF, dropF, dT, asB, asI, dAnd, dOr, dNot, dIf, dAndV, dOrV, dNotV, dTup, mkTup, dLst, mkLst, dChain, Res.bind, List.set, List.getElem?_cons_zero, List.getElem?_cons_succ, List.getElem?_nil, runF, startR, List.map_cons, List.map_nil, List.replicate, List.length_cons, List.length_nil, List.cons_append, List.nil_append, List.append_nil, ordD, eqD, neD, eqB, eqFlat, isD, isN, forF, dIt, dIts, itemsL, itemsT, itemsS, items, listD, tupleD, rng1, rng2, dYes, wipeR, dLc, dNoP, dPart, dSl, slD, slL, ixD, inD, ninD, inB, dTru, truB, strD, dStr, asS, joinD, joinZ, splitD, fmtD, dJoin, dJcons, dJnil, augF, guard_true, guardS_true, and_self, and_true, true_and, h0, hs2, hd]
      rw [show (D.lst [] : D) = iL [] from rfl, q2]
      simp [tgN, tgT, tgNil, tgCons, seqF, appF, stoF, asgF, parF, ownL, liftS, dOp, dUn, dVar, dC, dCall, dCons, dNil, g1, g2, intD, lenD, modD, fdivD, mulD, addD, subD, negD, absD, intsD, setF, retF, ifF, dropF, dT, asB, asI, dAnd, dOr, dNot, dIf, dAndV, dOrV, dNotV, dTup, mkTup, dLst, mkLst, dChain, Res.bind, List.set, List.getElem?_cons_zero, List.getElem?_cons_succ, List.getElem?_nil, runF, startR, List.map_cons, List.map_nil, List.replicate, List.length_cons, List.length_nil, List.cons_append, List.nil_append, List.append_nil, ordD, eqD, neD, eqB, eqFlat, isD, isN, forF, dIt, dIts, itemsL, itemsT, itemsS, items, listD, tupleD, rng1, rng2, dYes, wipeR, dLc, dNoP, dPart, dSl, slD, slL, ixD, inD, ninD, inB, dTru, truB, strD, dStr, asS, joinD, joinZ, splitD, fmtD, dJoin, dJcons, dJnil, augF, guard_true, guardS_true, and_self, and_true, true_and]
    · rw [q1]
      simp [F_l_place, Fb_l_place, tgN, tgT, tgNil, tgCons, seqF, appF, stoF, asgF, parF, ownL, liftS, dOp, dUn, dVar, dC, dCall, dCons, dNil, g1, g2, intD, lenD, modD, fdivD, mulD, addD, subD, negD, absD, intsD, setF, retF, ifF, dropF, dT, asB, asI, dAnd, dOr, dNot, dIf, dAndV, dOrV, dNotV, dTup, mkTup, dLst, mkLst, dChain, Res.bind, List.set, List.getElem?_cons_zero, List.getElem?_cons_succ, List.getElem?_nil, runF, startR, List.map_cons, List.map_nil, List.replicate, List.length_cons, List.length_nil, List.cons_append, List.nil_append, List.append_nil, ordD, eqD, neD, eqB, eqFlat, isD, isN, forF, dIt, dIts, itemsL, itemsT, itemsS, items, listD, tupleD, rng1, rng2, dYes, wipeR, dLc, dNoP, dPart, dSl, slD, slL, ixD, inD, ninD, inB, dTru, truB, strD, dStr, asS, joinD, joinZ, splitD, fmtD, dJoin, dJcons, dJnil, augF, guard_true, guardS_true, and_self, and_true, true_and, h0, hs2, hd]
      rw [show (D.lst [] : D) = iL [] from rfl, q2]
/-- both answers -/
def ansD (w : Str) : D := match plc w with
  | some ns => .tup [.str "read", iT ns]
  | none => .tup [.str "refused", .str w, .bl true]
theorem due_eq (w : Str) (hw : w.length < 1000) (hc : (tl w).count 46 < 12) : F_l_due [.str w] = .ok (ansD w) := by
  have h := lp_eq w hw hc
  have h2 : (2 : Nat) ≤ sizeLine := by decide
  have h3 : (3 : Nat) ≤ sizeLine := by decide
  unfold ansD
  cases hp : plc w with
  | some ns => rw [hp] at h; simp [F_l_due, Fb_l_due, tgN, tgT, tgNil, tgCons, seqF, appF, stoF, asgF, parF, ownL, liftS, dOp, dUn, dVar, dC, dCall, dCons, dNil, g1, g2, intD, lenD, modD, fdivD, mulD, addD, subD, negD, absD, intsD, setF, retF, ifF, dropF, dT, asB, asI, dAnd, dOr, dNot, dIf, dAndV, dOrV, dNotV, dTup, mkTup, dLst, mkLst, dChain, Res.bind, List.set, List.getElem?_cons_zero, List.getElem?_cons_succ, List.getElem?_nil, runF, startR, List.map_cons, List.map_nil, List.replicate, List.length_cons, List.length_nil, List.cons_append, List.nil_append, List.append_nil, ordD, eqD, neD, eqB, eqFlat, isD, isN, forF, dIt, dIts, itemsL, itemsT, itemsS, items, listD, tupleD, rng1, rng2, dYes, wipeR, dLc, dNoP, dPart, dSl, slD, slL, ixD, inD, ninD, inB, dTru, truB, strD, dStr, asS, joinD, joinZ, splitD, fmtD, dJoin, dJcons, dJnil, augF, guard_true, guardS_true, and_self, and_true, true_and, h, h2, h3]
  | none => rw [hp] at h; simp [F_l_due, Fb_l_due, tgN, tgT, tgNil, tgCons, seqF, appF, stoF, asgF, parF, ownL, liftS, dOp, dUn, dVar, dC, dCall, dCons, dNil, g1, g2, intD, lenD, modD, fdivD, mulD, addD, subD, negD, absD, intsD, setF, retF, ifF, dropF, dT, asB, asI, dAnd, dOr, dNot, dIf, dAndV, dOrV, dNotV, dTup, mkTup, dLst, mkLst, dChain, Res.bind, List.set, List.getElem?_cons_zero, List.getElem?_cons_succ, List.getElem?_nil, runF, startR, List.map_cons, List.map_nil, List.replicate, List.length_cons, List.length_nil, List.cons_append, List.nil_append, List.append_nil, ordD, eqD, neD, eqB, eqFlat, isD, isN, forF, dIt, dIts, itemsL, itemsT, itemsS, items, listD, tupleD, rng1, rng2, dYes, wipeR, dLc, dNoP, dPart, dSl, slD, slL, ixD, inD, ninD, inB, dTru, truB, strD, dStr, asS, joinD, joinZ, splitD, fmtD, dJoin, dJcons, dJnil, augF, guard_true, guardS_true, and_self, and_true, true_and, h, h2, h3]
theorem read_eq (w : Str) (hw : w.length < 1000) (hc : (tl w).count 46 < 12) : F_l_read [.str w] = .ok (ansD w) := by
  have h := rp_eq w hw hc
  have h2 : (2 : Nat) ≤ sizeLine := by decide
  have h3 : (3 : Nat) ≤ sizeLine := by decide
  unfold ansD
  cases hp : plc w with
  | some ns => rw [hp] at h; simp [F_l_read, Fb_l_read, tgN, tgT, tgNil, tgCons, seqF, appF, stoF, asgF, parF, ownL, liftS, dOp, dUn, dVar, dC, dCall, dCons, dNil, g1, g2, intD, lenD, modD, fdivD, mulD, addD, subD, negD, absD, intsD, setF, retF, ifF, dropF, dT, asB, asI, dAnd, dOr, dNot, dIf, dAndV, dOrV, dNotV, dTup, mkTup, dLst, mkLst, dChain, Res.bind, List.set, List.getElem?_cons_zero, List.getElem?_cons_succ, List.getElem?_nil, runF, startR, List.map_cons, List.map_nil, List.replicate, List.length_cons, List.length_nil, List.cons_append, List.nil_append, List.append_nil, ordD, eqD, neD, eqB, eqFlat, isD, isN, forF, dIt, dIts, itemsL, itemsT, itemsS, items, listD, tupleD, rng1, rng2, dYes, wipeR, dLc, dNoP, dPart, dSl, slD, slL, ixD, inD, ninD, inB, dTru, truB, strD, dStr, asS, joinD, joinZ, splitD, fmtD, dJoin, dJcons, dJnil, augF, guard_true, guardS_true, and_self, and_true, true_and, h, h2, h3, tryF]
  | none => rw [hp] at h; simp [F_l_read, Fb_l_read, tgN, tgT, tgNil, tgCons, seqF, appF, stoF, asgF, parF, ownL, liftS, dOp, dUn, dVar, dC, dCall, dCons, dNil, g1, g2, intD, lenD, modD, fdivD, mulD, addD, subD, negD, absD, intsD, setF, retF, ifF, dropF, dT, asB, asI, dAnd, dOr, dNot, dIf, dAndV, dOrV, dNotV, dTup, mkTup, dLst, mkLst, dChain, Res.bind, List.set, List.getElem?_cons_zero, List.getElem?_cons_succ, List.getElem?_nil, runF, startR, List.map_cons, List.map_nil, List.replicate, List.length_cons, List.length_nil, List.cons_append, List.nil_append, List.append_nil, ordD, eqD, neD, eqB, eqFlat, isD, isN, forF, dIt, dIts, itemsL, itemsT, itemsS, items, listD, tupleD, rng1, rng2, dYes, wipeR, dLc, dNoP, dPart, dSl, slD, slL, ixD, inD, ninD, inB, dTru, truB, strD, dStr, asS, joinD, joinZ, splitD, fmtD, dJoin, dJcons, dJnil, augF, guard_true, guardS_true, and_self, and_true, true_and, h, h2, h3, tryF, unsetS, isM_BadValue, isM_LaidError, isM_ValueError, isM_BadCommand, isM_BadPattern, dIsX, dXf, lookF]
theorem same_ans (w : Str) (h : ∀ ns, plc w = some ns → ns.length < 100000) : F_l_same 4 [ansD w, ansD w] = .ok (.bl true) := by
  unfold ansD
  cases hp : plc w with
  | some ns =>
    refine same_tup (by simp) fun d hd => ?_
    simp at hd
    rcases hd with rfl | rfl
    · exact same_str _ _
    · refine same_tup (by simpa using h ns hp) fun d hd => ?_
      obtain ⟨i, _, rfl⟩ := List.mem_map.mp hd
      exact same_int _ _
  | none =>
    refine same_tup (by simp) fun d hd => ?_
    simp at hd
    rcases hd with rfl | rfl | rfl
    · exact same_str _ _
    · exact same_str _ _
    · exact same_bl _ _
end Lk

end S_M_plc
section S_M_wr
set_option linter.all false
set_option maxHeartbeats 2000000
set_option maxRecDepth 100000
namespace Lk
open PySem L2 Dx TL
/-! ### steps -/
section
variable {r : Rho} {f f1 f2 f3 : Rho → Res D} {d d1 d2 d3 e : D} {fs : Rho → Res (List D)} {ds es : List D}
theorem op_ok {g : D → D → Res D} (h1 : f1 r = .ok d1) (h2 : f2 r = .ok d2) : dOp g f1 f2 r = g d1 d2 := by unfold dOp; rw [h1]; show Res.bind (f2 r) _ = _; rw [h2]; rfl
theorem str_ok {g : D → D → Res D} {z : Str} (h1 : f1 r = .ok (.str z)) (h2 : f2 r = .ok d2) : dStr g f1 f2 r = g (.str z) d2 := by unfold dStr; rw [h1]; show Res.bind (f2 r) _ = _; rw [h2]; rfl
theorem un_ok {g : D → Res D} (h1 : f1 r = .ok d1) : dUn g f1 r = g d1 := by unfold dUn; rw [h1]; rfl
theorem cons_ok (h1 : f1 r = .ok d1) (h2 : fs r = .ok ds) : dCons f1 fs r = .ok (d1 :: ds) := by unfold dCons; rw [h1]; show Res.bind (fs r) _ = _; rw [h2]; rfl
theorem call_ok {g : List D → Res D} (h : fs r = .ok ds) : dCall g fs r = g ds := by unfold dCall; rw [h]; rfl
theorem call1_ok {g : List D → Res D} (h : f1 r = .ok d1) : dCall g (dCons f1 dNil) r = g [d1] := call_ok (cons_ok h rfl)
theorem call2_ok {g : List D → Res D} (h : f1 r = .ok d1) (h2 : f2 r = .ok d2) : dCall g (dCons f1 (dCons f2 dNil)) r = g [d1, d2] := call_ok (cons_ok h (cons_ok h2 rfl))
theorem T_ok {b : Bool} (h : f r = .ok (.bl b)) : dT f r = .ok b := by unfold dT; rw [h]; rfl
theorem not_ok {t : Rho → Res Bool} {b : Bool} (h : t r = .ok b) : dNot t r = .ok (!b) := by unfold dNot; rw [h]; rfl
theorem or_ok {t u : Rho → Res Bool} {a b : Bool} (h : t r = .ok a) (h2 : u r = .ok b) : dOr t u r = .ok (a || b) := by unfold dOr; rw [h]; cases a <;> simp [Res.bind, h2]
theorem lcd_ok {its : Rho → Res (List D)} {t : D → Rho → Res Rho} {tt : Rho → Res Bool} {fe : Rho → Res D} {vs : List Nat} (h : its r = .ok ds) (hl : ds.length ≤ sizeLine) (h2 : lcLoop t tt fe (wipeR r vs) ds = .ok es) : dLc its t tt fe vs r = .ok (.lst es) := by
  unfold dLc
  rw [h]
  show guard _ _ = _
  rw [guard_pos hl, h2]
end
/-! ### comprehensions -/
theorem lc_map {t : D → Rho → Res Rho} {tt : Rho → Res Bool} {fe : Rho → Res D} {rw : Rho} (f : D → D) : ∀ ds : List D, (∀ d ∈ ds, ∃ r1, t d rw = .ok r1 ∧ tt r1 = .ok true ∧ fe r1 = .ok (f d)) → lcLoop t tt fe rw ds = .ok (ds.map f)
  | [], _ => rfl
  | d :: ds, h => by
    obtain ⟨r1, h1, h2, h3⟩ := h d (by simp)
    rw [lcLoop, h1]
    dsimp only
    rw [h2]
    dsimp only
    rw [h3]
    dsimp only
    rw [lc_map f ds fun x hx => h x (by simp [hx])]
    rfl
/-! ### numbers written -/
def nS (i : Int) : Str := Str.ofString (toString i)
theorem nS_tl {i : Int} (h : 0 ≤ i) : tl (nS i) = numL i.toNat := by
  have : i = ((i.toNat : Nat) : Int) := by omega
  unfold nS
  rw [this, tl_num]
  rfl
theorem nS_len {i : Int} (h : 0 ≤ i) (h1 : i < 1000000000000) : (nS i).length ≤ 12 := by
  rw [len_tl, nS_tl h]
  exact numL_len (by decide) (by omega)
theorem log_small {i : Int} (h : 0 ≤ i) (h1 : i < 1000000000000) : i.natAbs.log2 < 1920 := by
  by_cases h0 : i.natAbs = 0
  · rw [h0]; decide
  · have : i.natAbs < 2 ^ 40 := by omega
    have := (Nat.log2_lt h0).mpr this
    omega
theorem numL_head : ∀ n : Nat, 10 ≤ n → ∃ d r, numL n = d :: r ∧ d ≠ 48 := by
  intro n
  induction n using Nat.strongRecOn with
  | _ n ih =>
    intro h
    rw [numL_step h]
    by_cases h2 : n / 10 < 10
    · rw [numL_lt h2]
      exact ⟨48 + n / 10, _, rfl, by omega⟩
    · obtain ⟨d, r, e, hd⟩ := ih (n / 10) (by omega) (by omega)
      rw [e]
      exact ⟨d, _, rfl, hd⟩
theorem pv_num {n : Nat} (h : n < 10 ^ 12) : pvL (numL n) = some (n : Int) := by
  unfold pvL
  have hl : (numL n).length ≤ 12 := numL_len (by decide) h
  rw [if_neg, numL_val]
  rintro (h1 | h1 | h1 | ⟨h1, h2⟩)
  · exact numL_ne n h1
  · omega
  · have : (numL n).all isDg = true := List.all_eq_true.mpr fun c hc => by
      unfold isDg
      exact decide_eq_true (numL_digits n c hc)
    rw [this] at h1; cases h1
  · by_cases h10 : n < 10
    · rw [numL_lt h10] at h1; simp at h1
    · obtain ⟨d, r, e, hd⟩ := numL_head n (by omega)
      rw [e] at h2
      exact hd (by simpa using h2)
def Small (is : List Int) : Prop := ∀ i ∈ is, 0 ≤ i ∧ i < 1000000000000
theorem pvs_num : ∀ is : List Int, Small is → pvs (is.map nS) = some is
  | [], _ => rfl
  | i :: is, h => by
    have hi := h i (by simp)
    have e : pvL (tl (nS i)) = some i := by
      rw [nS_tl hi.1, pv_num (by omega)]
      congr 1
      omega
    rw [List.map_cons, pvs, e, pvs_num is fun x hx => h x (by simp [hx])]
def wr (is : List Int) : Str := if is = [] then "root" else Txt.join "." (is.map nS)
theorem nodot {is : List Int} (h : Small is) : ∀ p ∈ is.map nS, 46 ∉ tl p := fun p hp => by
  obtain ⟨i, hi, rfl⟩ := List.mem_map.mp hp
  rw [nS_tl (h i hi).1]
  exact numL_free (by omega)
theorem split_wr {is : List Int} (h : Small is) (hne : is ≠ []) : Txt.split (wr is) "." = is.map nS := by
  unfold wr
  rw [if_neg hne]
  exact split_join tl_dot (by decide +kernel) (by simpa using hne) (nodot h)
theorem joinL_head {n : Nat} {r : List Nat} {ps : List (List Nat)} {S : List Nat} : ∃ q, joinL S ((n :: r) :: ps) = n :: q := by
  cases ps with
  | nil => exact ⟨r, rfl⟩
  | cons p ps => exact ⟨_, rfl⟩
theorem wr_ne_root {is : List Int} (h : Small is) (hne : is ≠ []) : wr is ≠ "root" := by
  cases is with
  | nil => exact absurd rfl hne
  | cons i is =>
    intro e
    unfold wr at e
    rw [if_neg hne] at e
    have e2 := congrArg tl e
    have er : tl ("root" : Str) = [114, 111, 111, 116] := by decide +kernel
    rw [join_eq, tl_join, tl_dot, er, List.map_cons, List.map_cons, nS_tl (h i (by simp)).1] at e2
    cases hn : numL i.toNat with
    | nil => exact numL_ne _ hn
    | cons d r =>
      have hd := numL_digits i.toNat d (by rw [hn]; simp)
      rw [hn] at e2
      obtain ⟨q, hq⟩ := joinL_head (n := d) (r := r) (ps := (is.map nS).map tl) (S := [46])
      rw [hq] at e2
      have : d = 114 := (List.cons.inj e2).1
      omega
theorem plc_wr {is : List Int} (h : Small is) : plc (wr is) = some is := by
  by_cases hne : is = []
  · subst hne
    unfold plc wr
    simp
  · unfold plc
    rw [if_neg (wr_ne_root h hne), split_wr h hne]
    exact pvs_num is h
theorem joinL_len : ∀ ps : List (List Nat), (∀ p ∈ ps, p.length ≤ 12) → (joinL [46] ps).length ≤ 13 * ps.length
  | [], _ => by simp [joinL]
  | [p], h => by have := h p (by simp); simp [joinL]; omega
  | p :: q :: r, h => by
    have h1 := h p (by simp)
    have h2 := joinL_len (q :: r) fun x hx => h x (List.mem_cons_of_mem _ hx)
    simp only [joinL, List.length_append, List.length_cons, List.length_nil] at h2 ⊢
    omega
theorem wr_len {is : List Int} (h : Small is) : (wr is).length ≤ 13 * is.length + 4 := by
  unfold wr
  split
  · have : ("root" : Str).length = 4 := by decide +kernel
    omega
  · rw [len_tl, join_eq, tl_join, tl_dot]
    have := joinL_len ((is.map nS).map tl) fun p hp => by
      obtain ⟨z, hz, rfl⟩ := List.mem_map.mp hp
      obtain ⟨i, hi, rfl⟩ := List.mem_map.mp hz
      rw [← len_tl]
      exact nS_len (h i hi).1 (h i hi).2
    simp only [List.length_map] at this
    omega
theorem wr_dots {is : List Int} (h : Small is) : (tl (wr is)).count 46 ≤ is.length := by
  by_cases hne : is = []
  · subst hne
    have : (tl (wr [])).count 46 = 0 := by decide +kernel
    omega
  · have := parts_len (wr is)
    rw [split_wr h hne, List.length_map] at this
    omega
theorem ints_py : ∀ is : List Int, toPyL (is.map D.int) = some (is.map PyData.int)
  | [] => rfl
  | i :: is => by rw [List.map_cons, toPyL, ints_py is]; rfl
theorem ints_lay : ∀ is : List Int, PyData.canLayAll0 (is.map PyData.int) = true
  | [] => rfl
  | i :: is => by rw [List.map_cons, PyData.canLayAll0, ints_lay is]; rfl
theorem eq_nil (is : List Int) : eqB (iT is) (.tup []) = .ok (decide (is = [])) := by
  have hd : ∀ is : List Int, PyData.depthAll (is.map PyData.int) ≤ 1 := by
    intro is
    induction is with
    | nil => decide
    | cons i is ih => rw [List.map_cons, PyData.depthAll]; simp [PyData.depth]; omega
  have s1 : SeqAt.shaped (.tuple (is.map PyData.int)) = true := by
    unfold SeqAt.shaped
    rw [show PyData.canLay0 (.tuple (is.map PyData.int)) = PyData.canLayAll0 (is.map PyData.int) from by rw [PyData.canLay0], ints_lay]
    have := hd is
    simp [PyData.depth]
    omega
  have s2 : SeqAt.shaped (.tuple []) = true := by decide +kernel
  unfold eqB
  rw [show eqFlat (iT is) (.tup []) = none from rfl]
  dsimp only
  unfold eqDeep
  rw [show toPy (iT is) = some (.tuple (is.map PyData.int)) from by rw [toPy, ints_py]; rfl, show toPy (.tup []) = some (.tuple []) from rfl]
  dsimp only
  rw [if_pos ⟨s1, s2⟩]
  cases is with
  | nil => simp [PyData.eqv, PyData.eqvAll]
  | cons i is => simp [PyData.eqv, PyData.eqvAll]
theorem strs_all : ∀ zs : List Str, allStr (zs.map D.str) = some zs
  | [] => rfl
  | z :: zs => by rw [List.map_cons, allStr, strs_all zs]; rfl
theorem sum_len : ∀ is : List Int, Small is → ((is.map nS).map (·.length)).sum ≤ 12 * is.length
  | [], _ => by simp
  | i :: is, h => by
    have h1 := sum_len is fun x hx => h x (by simp [hx])
    have h2 := nS_len (h i (by simp)).1 (h i (by simp)).2
    simp only [List.map_cons, List.sum_cons, List.length_cons]
    omega
theorem lc_strs (is : List Int) (h : Small is) (a : Option D) : lcLoop (tgN 1) dYes (dCall (g1 strD) (dCons (dVar 1) dNil)) [a, none] (is.map D.int) = .ok ((is.map nS).map D.str) := by
  rw [lc_map (fun d => match d with | .int i => .str (nS i) | d => d)]
  · simp
  · intro d hd
    obtain ⟨i, hi, rfl⟩ := List.mem_map.mp hd
    exact ⟨[a, some (.int i)], rfl, rfl, by simp [tgN, tgT, tgNil, tgCons, seqF, appF, stoF, asgF, parF, ownL, liftS, dOp, dUn, dVar, dC, dCall, dCons, dNil, g1, g2, intD, lenD, modD, fdivD, mulD, addD, subD, negD, absD, intsD, setF, retF, ifF, dropF, dT, asB, asI, dAnd, dOr, dNot, dIf, dAndV, dOrV, dNotV, dTup, mkTup, dLst, mkLst, dChain, Res.bind, List.set, List.getElem?_cons_zero, List.getElem?_cons_succ, List.getElem?_nil, runF, startR, List.map_cons, List.map_nil, List.replicate, List.length_cons, List.length_nil, List.cons_append, List.nil_append, List.append_nil, ordD, eqD, neD, eqB, eqFlat, isD, isN, forF, dIt, dIts, itemsL, itemsT, itemsS, items, listD, tupleD, rng1, rng2, dYes, wipeR, dLc, dNoP, dPart, dSl, slD, slL, ixD, inD, ninD, inB, dTru, truB, strD, dStr, asS, joinD, joinZ, splitD, fmtD, dJoin, dJcons, dJnil, augF, guard_true, guardS_true, and_self, and_true, true_and, log_small (h i hi).1 (h i hi).2]; rfl⟩
theorem wr_dots12 {is : List Int} (h : Small is) {n : Nat} (h0 : 0 < n) (hn : is.length ≤ n) : (tl (wr is)).count 46 < n := by
  by_cases hne : is = []
  · subst hne
    have : (tl (wr [])).count 46 = 0 := by decide +kernel
    omega
  · have := parts_len (wr is)
    rw [split_wr h hne, List.length_map] at this
    omega
theorem join_is (is : List Int) (h : Small is) (hn : is.length ≤ 1000) : joinZ "." (some (is.map nS)) = .ok (.str (Txt.join "." (is.map nS))) := by
  show guard _ _ = _
  rw [guard_pos]
  have := sum_len is h
  have e : ("." : Str).length = 1 := by decide +kernel
  rw [List.length_map, e]
  omega
theorem join_body (is : List Int) (h : Small is) (hn : is.length ≤ 1000) : (dStr joinD (dC (.str ".")) (dLc (dIt itemsT (dVar 0)) (tgN 1) dYes (dCall (g1 strD) (dCons (dVar 1) dNil)) [1])) [some (iT is), none] = .ok (.str (Txt.join "." (is.map nS))) := by
  have hz : is.length ≤ sizeLine := Nat.le_trans (by omega) sz5
  rw [str_ok (d2 := .lst ((is.map nS).map D.str)) rfl (lcd_ok (ds := is.map D.int) rfl (by rw [List.length_map]; exact hz) (lc_strs is h _))]
  show joinZ "." (allStr _) = _
  rw [strs_all, join_is is h hn]
theorem wp_eq (is : List Int) (h : Small is) (hn : is.length ≤ 1000) : F_write_place [iT is] = .ok (.str (wr is)) := by
  have hz : is.length ≤ sizeLine := Nat.le_trans (by omega) sz5
  by_cases hne : is = []
  · subst hne
    simp [F_write_place, Fb_write_place, tgN, tgT, tgNil, tgCons, seqF, appF, stoF, asgF, parF, ownL, liftS, dOp, dUn, dVar, dC, dCall, dCons, dNil, g1, g2, intD, lenD, modD, fdivD, mulD, addD, subD, negD, absD, intsD, setF, retF, ifF, dropF, dT, asB, asI, dAnd, dOr, dNot, dIf, dAndV, dOrV, dNotV, dTup, mkTup, dLst, mkLst, dChain, Res.bind, List.set, List.getElem?_cons_zero, List.getElem?_cons_succ, List.getElem?_nil, runF, startR, List.map_cons, List.map_nil, List.replicate, List.length_cons, List.length_nil, List.cons_append, List.nil_append, List.append_nil, ordD, eqD, neD, eqB, eqFlat, isD, isN, forF, dIt, dIts, itemsL, itemsT, itemsS, items, listD, tupleD, rng1, rng2, dYes, wipeR, dLc, dNoP, dPart, dSl, slD, slL, ixD, inD, ninD, inB, dTru, truB, strD, dStr, asS, joinD, joinZ, splitD, fmtD, dJoin, dJcons, dJnil, augF, guard_true, guardS_true, and_self, and_true, true_and, wr]
  · have hl : ((is.length : Nat) : Int) ≠ 0 := by
      cases is with
      | nil => exact absurd rfl hne
      | cons _ _ => simp; omega
    unfold wr
    rw [if_neg hne]
    have c1 : (dT (dOp eqD (dCall (g1 lenD) (dCons (dVar 0) dNil)) (dC (.int 0)))) [some (iT is), none] = .ok false := by
      simp [tgN, tgT, tgNil, tgCons, seqF, appF, stoF, asgF, parF, ownL, liftS, dOp, dUn, dVar, dC, dCall, dCons, dNil, g1, g2, intD, lenD, modD, fdivD, mulD, addD, subD, negD, absD, intsD, setF, retF, ifF, dropF, dT, asB, asI, dAnd, dOr, dNot, dIf, dAndV, dOrV, dNotV, dTup, mkTup, dLst, mkLst, dChain, Res.bind, List.set, List.getElem?_cons_zero, List.getElem?_cons_succ, List.getElem?_nil, runF, startR, List.map_cons, List.map_nil, List.replicate, List.length_cons, List.length_nil, List.cons_append, List.nil_append, List.append_nil, ordD, eqD, neD, eqB, eqFlat, isD, isN, forF, dIt, dIts, itemsL, itemsT, itemsS, items, listD, tupleD, rng1, rng2, dYes, wipeR, dLc, dNoP, dPart, dSl, slD, slL, ixD, inD, ninD, inB, dTru, truB, strD, dStr, asS, joinD, joinZ, splitD, fmtD, dJoin, dJcons, dJnil, augF, guard_true, guardS_true, and_self, and_true, true_and, hl, hz, hne]
    refine run_rt ?_
    show Fb_write_place [some (iT is), none] = _
    rw [Fb_write_place, seq_nx (if_f c1)]
    exact ret_ok (join_body is h hn)
theorem wn_eq (is : List Int) (h : Small is) (hn : is.length ≤ 1000) : F_l_written [iT is] = .ok (.str (wr is)) := by
  have c0 : (dT (dOp eqD (dVar 0) (dTup dNil))) [some (iT is), none] = .ok (decide (is = [])) := by
    refine T_ok ?_
    rw [op_ok (d1 := iT is) (d2 := .tup []) rfl (by simp [tgN, tgT, tgNil, tgCons, seqF, appF, stoF, asgF, parF, ownL, liftS, dOp, dUn, dVar, dC, dCall, dCons, dNil, g1, g2, intD, lenD, modD, fdivD, mulD, addD, subD, negD, absD, intsD, setF, retF, ifF, dropF, dT, asB, asI, dAnd, dOr, dNot, dIf, dAndV, dOrV, dNotV, dTup, mkTup, dLst, mkLst, dChain, Res.bind, List.set, List.getElem?_cons_zero, List.getElem?_cons_succ, List.getElem?_nil, runF, startR, List.map_cons, List.map_nil, List.replicate, List.length_cons, List.length_nil, List.cons_append, List.nil_append, List.append_nil, ordD, eqD, neD, eqB, eqFlat, isD, isN, forF, dIt, dIts, itemsL, itemsT, itemsS, items, listD, tupleD, rng1, rng2, dYes, wipeR, dLc, dNoP, dPart, dSl, slD, slL, ixD, inD, ninD, inB, dTru, truB, strD, dStr, asS, joinD, joinZ, splitD, fmtD, dJoin, dJcons, dJnil, augF, guard_true, guardS_true, and_self, and_true, true_and])]
    unfold eqD
    rw [eq_nil]
    rfl
  unfold wr
  by_cases hne : is = []
  · rw [if_pos hne]
    refine run_rt ?_
    show Fb_l_written [some (iT is), none] = _
    rw [Fb_l_written, seq_rt (e := .str "root") ((if_t (c0.trans (by simp [hne]))).trans (ret_ok rfl))]
  · rw [if_neg hne]
    refine run_rt ?_
    show Fb_l_written [some (iT is), none] = _
    rw [Fb_l_written, seq_nx (if_f (c0.trans (by simp [hne])))]
    exact ret_ok (join_body is h hn)
end Lk

end S_M_wr
section S_M_dr
set_option linter.all false
set_option maxHeartbeats 2000000
set_option maxRecDepth 100000
namespace Lk
open PySem L2 Dx TL
theorem ix_lst {ds : List D} {i : Int} {d : D} (h : atI ds i = some d) : ixD (.lst ds) (.int i) = .ok d := by
  show (match atI ds i with | some d => Res.ok d | none => Res.bad) = _
  rw [h]
theorem ix_tup {ds : List D} {i : Int} {d : D} (h : atI ds i = some d) : ixD (.tup ds) (.int i) = .ok d := by
  show (match atI ds i with | some d => Res.ok d | none => Res.bad) = _
  rw [h]
theorem cell_eq (ns : List Int) (k : Nat) (hk : k < 1000) : F_l_cell [.fz (ns.map D.int), .int k] = .ok (.int (ns.getD k 0)) := by
  by_cases h : k < ns.length
  · have h1 : ((k : Nat) : Int) < ((ns.length : Nat) : Int) := by omega
    have h2 : atI (ns.map D.int) (k : Int) = some (.int ns[k]) := atI_nat (by rw [List.getElem?_map, List.getElem?_eq_getElem h]; rfl)
    simp [F_l_cell, Fb_l_cell, tgN, tgT, tgNil, tgCons, seqF, appF, stoF, asgF, parF, ownL, liftS, dOp, dUn, dVar, dC, dCall, dCons, dNil, g1, g2, intD, lenD, modD, fdivD, mulD, addD, subD, negD, absD, intsD, setF, retF, ifF, dropF, dT, asB, asI, dAnd, dOr, dNot, dIf, dAndV, dOrV, dNotV, dTup, mkTup, dLst, mkLst, dChain, Res.bind, List.set, List.getElem?_cons_zero, List.getElem?_cons_succ, List.getElem?_nil, runF, startR, List.map_cons, List.map_nil, List.replicate, List.length_cons, List.length_nil, List.cons_append, List.nil_append, List.append_nil, ordD, eqD, neD, eqB, eqFlat, isD, isN, forF, dIt, dIts, itemsL, itemsT, itemsS, items, listD, tupleD, rng1, rng2, dYes, wipeR, dLc, dNoP, dPart, dSl, slD, slL, ixD, inD, ninD, inB, dTru, truB, strD, dStr, asS, joinD, joinZ, splitD, fmtD, dJoin, dJcons, dJnil, augF, guard_true, guardS_true, and_self, and_true, true_and, h1, h2, h]
  · have h1 : ¬ ((k : Nat) : Int) < ((ns.length : Nat) : Int) := by omega
    simp [F_l_cell, Fb_l_cell, tgN, tgT, tgNil, tgCons, seqF, appF, stoF, asgF, parF, ownL, liftS, dOp, dUn, dVar, dC, dCall, dCons, dNil, g1, g2, intD, lenD, modD, fdivD, mulD, addD, subD, negD, absD, intsD, setF, retF, ifF, dropF, dT, asB, asI, dAnd, dOr, dNot, dIf, dAndV, dOrV, dNotV, dTup, mkTup, dLst, mkLst, dChain, Res.bind, List.set, List.getElem?_cons_zero, List.getElem?_cons_succ, List.getElem?_nil, runF, startR, List.map_cons, List.map_nil, List.replicate, List.length_cons, List.length_nil, List.cons_append, List.nil_append, List.append_nil, ordD, eqD, neD, eqB, eqFlat, isD, isN, forF, dIt, dIts, itemsL, itemsT, itemsS, items, listD, tupleD, rng1, rng2, dYes, wipeR, dLc, dNoP, dPart, dSl, slD, slL, ixD, inD, ninD, inB, dTru, truB, strD, dStr, asS, joinD, joinZ, splitD, fmtD, dJoin, dJcons, dJnil, augF, guard_true, guardS_true, and_self, and_true, true_and, h1, h]
def idx (a b : Int) : Int := if a = 0 then 0 else if a = 1 then b % 10 else if a = 2 then 10 else if a = 3 then 999999999999 - b % 3 else if a = 4 then b % 60 else b
theorem index_eq (a b : Int) : F_l_index [.int a, .int b] = .ok (.int (idx a b)) := by
  unfold idx
  by_cases h0 : a = 0
  · simp [F_l_index, Fb_l_index, tgN, tgT, tgNil, tgCons, seqF, appF, stoF, asgF, parF, ownL, liftS, dOp, dUn, dVar, dC, dCall, dCons, dNil, g1, g2, intD, lenD, modD, fdivD, mulD, addD, subD, negD, absD, intsD, setF, retF, ifF, dropF, dT, asB, asI, dAnd, dOr, dNot, dIf, dAndV, dOrV, dNotV, dTup, mkTup, dLst, mkLst, dChain, Res.bind, List.set, List.getElem?_cons_zero, List.getElem?_cons_succ, List.getElem?_nil, runF, startR, List.map_cons, List.map_nil, List.replicate, List.length_cons, List.length_nil, List.cons_append, List.nil_append, List.append_nil, ordD, eqD, neD, eqB, eqFlat, isD, isN, forF, dIt, dIts, itemsL, itemsT, itemsS, items, listD, tupleD, rng1, rng2, dYes, wipeR, dLc, dNoP, dPart, dSl, slD, slL, ixD, inD, ninD, inB, dTru, truB, strD, dStr, asS, joinD, joinZ, splitD, fmtD, dJoin, dJcons, dJnil, augF, guard_true, guardS_true, and_self, and_true, true_and, h0]
  by_cases h1 : a = 1
  · simp [F_l_index, Fb_l_index, tgN, tgT, tgNil, tgCons, seqF, appF, stoF, asgF, parF, ownL, liftS, dOp, dUn, dVar, dC, dCall, dCons, dNil, g1, g2, intD, lenD, modD, fdivD, mulD, addD, subD, negD, absD, intsD, setF, retF, ifF, dropF, dT, asB, asI, dAnd, dOr, dNot, dIf, dAndV, dOrV, dNotV, dTup, mkTup, dLst, mkLst, dChain, Res.bind, List.set, List.getElem?_cons_zero, List.getElem?_cons_succ, List.getElem?_nil, runF, startR, List.map_cons, List.map_nil, List.replicate, List.length_cons, List.length_nil, List.cons_append, List.nil_append, List.append_nil, ordD, eqD, neD, eqB, eqFlat, isD, isN, forF, dIt, dIts, itemsL, itemsT, itemsS, items, listD, tupleD, rng1, rng2, dYes, wipeR, dLc, dNoP, dPart, dSl, slD, slL, ixD, inD, ninD, inB, dTru, truB, strD, dStr, asS, joinD, joinZ, splitD, fmtD, dJoin, dJcons, dJnil, augF, guard_true, guardS_true, and_self, and_true, true_and, h1]
  by_cases h2 : a = 2
  · simp [F_l_index, Fb_l_index, tgN, tgT, tgNil, tgCons, seqF, appF, stoF, asgF, parF, ownL, liftS, dOp, dUn, dVar, dC, dCall, dCons, dNil, g1, g2, intD, lenD, modD, fdivD, mulD, addD, subD, negD, absD, intsD, setF, retF, ifF, dropF, dT, asB, asI, dAnd, dOr, dNot, dIf, dAndV, dOrV, dNotV, dTup, mkTup, dLst, mkLst, dChain, Res.bind, List.set, List.getElem?_cons_zero, List.getElem?_cons_succ, List.getElem?_nil, runF, startR, List.map_cons, List.map_nil, List.replicate, List.length_cons, List.length_nil, List.cons_append, List.nil_append, List.append_nil, ordD, eqD, neD, eqB, eqFlat, isD, isN, forF, dIt, dIts, itemsL, itemsT, itemsS, items, listD, tupleD, rng1, rng2, dYes, wipeR, dLc, dNoP, dPart, dSl, slD, slL, ixD, inD, ninD, inB, dTru, truB, strD, dStr, asS, joinD, joinZ, splitD, fmtD, dJoin, dJcons, dJnil, augF, guard_true, guardS_true, and_self, and_true, true_and, h2]
  by_cases h3 : a = 3
  · simp [F_l_index, Fb_l_index, tgN, tgT, tgNil, tgCons, seqF, appF, stoF, asgF, parF, ownL, liftS, dOp, dUn, dVar, dC, dCall, dCons, dNil, g1, g2, intD, lenD, modD, fdivD, mulD, addD, subD, negD, absD, intsD, setF, retF, ifF, dropF, dT, asB, asI, dAnd, dOr, dNot, dIf, dAndV, dOrV, dNotV, dTup, mkTup, dLst, mkLst, dChain, Res.bind, List.set, List.getElem?_cons_zero, List.getElem?_cons_succ, List.getElem?_nil, runF, startR, List.map_cons, List.map_nil, List.replicate, List.length_cons, List.length_nil, List.cons_append, List.nil_append, List.append_nil, ordD, eqD, neD, eqB, eqFlat, isD, isN, forF, dIt, dIts, itemsL, itemsT, itemsS, items, listD, tupleD, rng1, rng2, dYes, wipeR, dLc, dNoP, dPart, dSl, slD, slL, ixD, inD, ninD, inB, dTru, truB, strD, dStr, asS, joinD, joinZ, splitD, fmtD, dJoin, dJcons, dJnil, augF, guard_true, guardS_true, and_self, and_true, true_and, h3]
  by_cases h4 : a = 4
  · simp [F_l_index, Fb_l_index, tgN, tgT, tgNil, tgCons, seqF, appF, stoF, asgF, parF, ownL, liftS, dOp, dUn, dVar, dC, dCall, dCons, dNil, g1, g2, intD, lenD, modD, fdivD, mulD, addD, subD, negD, absD, intsD, setF, retF, ifF, dropF, dT, asB, asI, dAnd, dOr, dNot, dIf, dAndV, dOrV, dNotV, dTup, mkTup, dLst, mkLst, dChain, Res.bind, List.set, List.getElem?_cons_zero, List.getElem?_cons_succ, List.getElem?_nil, runF, startR, List.map_cons, List.map_nil, List.replicate, List.length_cons, List.length_nil, List.cons_append, List.nil_append, List.append_nil, ordD, eqD, neD, eqB, eqFlat, isD, isN, forF, dIt, dIts, itemsL, itemsT, itemsS, items, listD, tupleD, rng1, rng2, dYes, wipeR, dLc, dNoP, dPart, dSl, slD, slL, ixD, inD, ninD, inB, dTru, truB, strD, dStr, asS, joinD, joinZ, splitD, fmtD, dJoin, dJcons, dJnil, augF, guard_true, guardS_true, and_self, and_true, true_and, h4]
  simp [F_l_index, Fb_l_index, tgN, tgT, tgNil, tgCons, seqF, appF, stoF, asgF, parF, ownL, liftS, dOp, dUn, dVar, dC, dCall, dCons, dNil, g1, g2, intD, lenD, modD, fdivD, mulD, addD, subD, negD, absD, intsD, setF, retF, ifF, dropF, dT, asB, asI, dAnd, dOr, dNot, dIf, dAndV, dOrV, dNotV, dTup, mkTup, dLst, mkLst, dChain, Res.bind, List.set, List.getElem?_cons_zero, List.getElem?_cons_succ, List.getElem?_nil, runF, startR, List.map_cons, List.map_nil, List.replicate, List.length_cons, List.length_nil, List.cons_append, List.nil_append, List.append_nil, ordD, eqD, neD, eqB, eqFlat, isD, isN, forF, dIt, dIts, itemsL, itemsT, itemsS, items, listD, tupleD, rng1, rng2, dYes, wipeR, dLc, dNoP, dPart, dSl, slD, slL, ixD, inD, ninD, inB, dTru, truB, strD, dStr, asS, joinD, joinZ, splitD, fmtD, dJoin, dJcons, dJnil, augF, guard_true, guardS_true, and_self, and_true, true_and, h0, h1, h2, h3, h4]
theorem idx_small {a b : Int} (h : 0 ≤ b) (h1 : b < 1000000000000) : 0 ≤ idx a b ∧ idx a b < 1000000000000 := by
  unfold idx
  split
  · omega
  split
  · omega
  split
  · omega
  split
  · omega
  split
  · omega
  · omega
/-! ### drawn places -/
def lim2 (a b : Int) : Nat → List Int
  | 0 => []
  | n + 1 => lim2 a b n ++ [a, b]
theorem lim2_len (a b : Int) : ∀ n, (lim2 a b n).length = 2 * n
  | 0 => rfl
  | n + 1 => by rw [lim2, List.length_append, lim2_len a b n]; simp; omega
theorem lim2_mem (a b : Int) : ∀ n x, x ∈ lim2 a b n → x = a ∨ x = b
  | 0, x, h => by simp [lim2] at h
  | n + 1, x, h => by
    rw [lim2, List.mem_append] at h
    rcases h with h | h
    · exact lim2_mem a b n x h
    · simpa using h
theorem lim2_get (a b : Int) : ∀ n k, k < n → (lim2 a b n)[2 * k]? = some a ∧ (lim2 a b n)[2 * k + 1]? = some b
  | 0, k, h => by omega
  | n + 1, k, h => by
    rw [lim2]
    by_cases hk : k < n
    · have := lim2_get a b n k hk
      rw [List.getElem?_append_left (by rw [lim2_len]; omega), List.getElem?_append_left (by rw [lim2_len]; omega)]
      exact this
    · have : k = n := by omega
      subst this
      rw [List.getElem?_append_right (by rw [lim2_len]; omega), List.getElem?_append_right (by rw [lim2_len]; omega), lim2_len]
      have e1 : 2 * k - 2 * k = 0 := by omega
      have e2 : 2 * k + 1 - 2 * k = 1 := by omega
      rw [e1, e2]
      exact ⟨rfl, rfl⟩
theorem lim_step {F : Rho → SR} {E : List Int → Option D → Rho} {m : Int} {a b : Int} {i : Nat} (ht : ∀ l d x, tgN i d (E l x) = .ok (E l (some d))) (hF : ∀ l d, l.length < 1000 → F (E l (some d)) = .nx (E (l ++ [a, b]) (some d))) : ∀ (n : Nat) (s : Nat) (ds : List D) (x : Option D), ds.length = n → s + n ≤ 100 →
    ∃ y, loopF (tgN i) F ds (E ([m] ++ lim2 a b s) x) = .nx (E ([m] ++ lim2 a b (s + n)) y)
  | 0, s, ds, x, h, _ => by
    rw [List.length_eq_zero_iff.mp h]
    exact ⟨x, rfl⟩
  | n + 1, s, ds, x, h, hs => by
    cases ds with
    | nil => simp at h
    | cons d ds =>
      obtain ⟨y, hy⟩ := lim_step ht hF n (s + 1) ds (some d) (by simpa using h) (by omega)
      refine ⟨y, ?_⟩
      rw [loop_nx (ht _ d x) (hF _ d (by rw [List.length_append, lim2_len]; simp; omega)), show [m] ++ lim2 a b s ++ [a, b] = [m] ++ lim2 a b (s + 1) from by rw [lim2]; simp, hy, show s + 1 + n = s + (n + 1) from by omega]
theorem rngL_len (a : Int) (n : Nat) : (rngL a n).length = n := by unfold rngL; simp
theorem rngL_mem {a : Int} {n : Nat} {d : D} (h : d ∈ rngL a n) : ∃ k : Nat, k < n ∧ d = .int (a + (k : Int)) := by
  unfold rngL at h
  obtain ⟨k, h1, rfl⟩ := List.mem_map.mp h
  exact ⟨k, List.mem_range.mp h1, rfl⟩
theorem dr_lim (c : Int) (many : Nat) (hm : many ≤ 12) (n : Nat) (l : List Int) (d : D) (hl : l.length < 1000) : Lp_l_drawn_1 [some (.int c), some (.int many), some (iL l), some d, none] = .nx [some (.int c), some (.int many), some (iL (l ++ [6, 1000000000000])), some d, none] := by
  have hz : l.length + 2 ≤ sizeLine := Nat.le_trans (by omega) sz5
  have h2 : (2 : Nat) ≤ sizeLine := by decide
  simp [Lp_l_drawn_1, tgN, tgT, tgNil, tgCons, seqF, appF, stoF, asgF, parF, ownL, liftS, dOp, dUn, dVar, dC, dCall, dCons, dNil, g1, g2, intD, lenD, modD, fdivD, mulD, addD, subD, negD, absD, intsD, setF, retF, ifF, dropF, dT, asB, asI, dAnd, dOr, dNot, dIf, dAndV, dOrV, dNotV, dTup, mkTup, dLst, mkLst, dChain, Res.bind, List.set, List.getElem?_cons_zero, List.getElem?_cons_succ, List.getElem?_nil, runF, startR, List.map_cons, List.map_nil, List.replicate, List.length_cons, List.length_nil, List.cons_append, List.nil_append, List.append_nil, ordD, eqD, neD, eqB, eqFlat, isD, isN, forF, dIt, dIts, itemsL, itemsT, itemsS, items, listD, tupleD, rng1, rng2, dYes, wipeR, dLc, dNoP, dPart, dSl, slD, slL, ixD, inD, ninD, inB, dTru, truB, strD, dStr, asS, joinD, joinZ, splitD, fmtD, dJoin, dJcons, dJnil, augF, guard_true, guardS_true, and_self, and_true, true_and, hz, h2]
theorem row_at {c : Int} {ls : List Int} {k : Nat} {l : Int} (hl : ∀ l ∈ ls, 0 < l) (h : ls[k]? = some l) : atI ((rowL c ls).map D.int) (k : Int) = some (.int ((rowL c ls).getD k 0)) ∧ 0 ≤ (rowL c ls).getD k 0 ∧ (rowL c ls).getD k 0 < l := by
  obtain ⟨v, h1, h2, h3⟩ := rowL_get c ls k l hl h
  have e : (rowL c ls).getD k 0 = v := by rw [List.getD_eq_getElem?_getD, h1]; rfl
  rw [e]
  exact ⟨atI_nat (by rw [List.getElem?_map, h1]; rfl), h2, h3⟩
theorem drawn_eq (c : Int) (many : Nat) (hm : many ≤ 12) : ∃ is : List Int, F_l_drawn [.int c, .int many] = .ok (iT is) ∧ Small is ∧ is.length ≤ many := by
  have hlp : ∀ l ∈ [((many : Nat) : Int) + 1] ++ lim2 6 1000000000000 many, 0 < l ∧ l < 4611686018427387904 := fun l h => by
    rw [List.mem_append] at h
    rcases h with h | h
    · simp at h; omega
    · rcases lim2_mem _ _ _ _ h with rfl | rfl <;> omega
  have hll : ([((many : Nat) : Int) + 1] ++ lim2 6 1000000000000 many).length < 100000 := by rw [List.length_append, lim2_len]; simp; omega
  generalize hL : [((many : Nat) : Int) + 1] ++ lim2 6 1000000000000 many = L at hlp hll
  have hL0 : L[0]? = some (((many : Nat) : Int) + 1) := by rw [← hL]; rfl
  have hLk : ∀ k, k < many → L[2 * k + 1]? = some 6 ∧ L[2 * k + 2]? = some 1000000000000 := fun k hk => by
    have := lim2_get 6 1000000000000 many k hk
    rw [← hL]
    exact this
  have hp : ∀ l ∈ L, 0 < l := fun l h => (hlp l h).1
  have r0 := row_at (c := c) hp hL0
  have rk : ∀ k, k < many → _ := fun k hk => row_at (c := c) hp (hLk k hk).1
  have rk2 : ∀ k, k < many → _ := fun k hk => row_at (c := c) hp (hLk k hk).2
  have hrow := row_eq c L hlp hll
  generalize rowL c L = R at r0 rk rk2 hrow
  generalize hv0 : R.getD 0 0 = v0 at r0
  refine ⟨(List.range v0.toNat).map fun k => idx (R.getD (2 * k + 1) 0) (R.getD (2 * k + 2) 0), ?_, ?_, ?_⟩
  · refine run_rt ?_
    show Fb_l_drawn [some (.int c), some (.int many), none, none, none] = _
    have s1 : setF 2 (dLst (dCons (dOp addD (dVar 1) (dC (.int 1))) dNil)) [some (.int c), some (.int many), none, none, none] = .nx [some (.int c), some (.int many), some (iL ([((many : Nat) : Int) + 1] ++ lim2 6 1000000000000 0)), none, none] := by
      have h1 : (1 : Nat) ≤ sizeLine := by decide
      simp [tgN, tgT, tgNil, tgCons, seqF, appF, stoF, asgF, parF, ownL, liftS, dOp, dUn, dVar, dC, dCall, dCons, dNil, g1, g2, intD, lenD, modD, fdivD, mulD, addD, subD, negD, absD, intsD, setF, retF, ifF, dropF, dT, asB, asI, dAnd, dOr, dNot, dIf, dAndV, dOrV, dNotV, dTup, mkTup, dLst, mkLst, dChain, Res.bind, List.set, List.getElem?_cons_zero, List.getElem?_cons_succ, List.getElem?_nil, runF, startR, List.map_cons, List.map_nil, List.replicate, List.length_cons, List.length_nil, List.cons_append, List.nil_append, List.append_nil, ordD, eqD, neD, eqB, eqFlat, isD, isN, forF, dIt, dIts, itemsL, itemsT, itemsS, items, listD, tupleD, rng1, rng2, dYes, wipeR, dLc, dNoP, dPart, dSl, slD, slL, ixD, inD, ninD, inB, dTru, truB, strD, dStr, asS, joinD, joinZ, splitD, fmtD, dJoin, dJcons, dJnil, augF, guard_true, guardS_true, and_self, and_true, true_and, h1, lim2]
    have s2 : (dIts rng1 (dCons (dVar 1) dNil)) [some (.int c), some (.int many), some (iL ([((many : Nat) : Int) + 1] ++ lim2 6 1000000000000 0)), none, none] = .ok (rngL 0 many) := by
      have h1 : (-4611686018427387904 : Int) ≤ ((many : Nat) : Int) ∧ ((many : Nat) : Int) < 4611686018427387904 := by omega
      simp [tgN, tgT, tgNil, tgCons, seqF, appF, stoF, asgF, parF, ownL, liftS, dOp, dUn, dVar, dC, dCall, dCons, dNil, g1, g2, intD, lenD, modD, fdivD, mulD, addD, subD, negD, absD, intsD, setF, retF, ifF, dropF, dT, asB, asI, dAnd, dOr, dNot, dIf, dAndV, dOrV, dNotV, dTup, mkTup, dLst, mkLst, dChain, Res.bind, List.set, List.getElem?_cons_zero, List.getElem?_cons_succ, List.getElem?_nil, runF, startR, List.map_cons, List.map_nil, List.replicate, List.length_cons, List.length_nil, List.cons_append, List.nil_append, List.append_nil, ordD, eqD, neD, eqB, eqFlat, isD, isN, forF, dIt, dIts, itemsL, itemsT, itemsS, items, listD, tupleD, rng1, rng2, dYes, wipeR, dLc, dNoP, dPart, dSl, slD, slL, ixD, inD, ninD, inB, dTru, truB, strD, dStr, asS, joinD, joinZ, splitD, fmtD, dJoin, dJcons, dJnil, augF, guard_true, guardS_true, and_self, and_true, true_and, h1]
    obtain ⟨y, s3⟩ := lim_step (F := Lp_l_drawn_1) (E := fun l x => [some (.int c), some (.int many), some (iL l), x, none]) (m := ((many : Nat) : Int) + 1) (a := 6) (b := 1000000000000) (i := 3) (fun _ _ _ => rfl) (fun l d hl => dr_lim c many hm many l d hl) many 0 (rngL 0 many) none (rngL_len _ _) (by omega)
    rw [Fb_l_drawn, seq_nx s1, seq_nx ((for_ok s2).trans s3), Nat.zero_add, hL, seq_nx (set_ok (d := iL R) ((call2_ok rfl rfl).trans hrow))]
    refine ret_ok ?_
    have hv : v0 < 100 := by omega
    rw [call1_ok (d1 := iL ((List.range v0.toNat).map fun k => idx (R.getD (2 * k + 1) 0) (R.getD (2 * k + 2) 0)))]
    · rfl
    · have hs : v0.toNat ≤ sizeLine := Nat.le_trans (by omega) sz5
      refine lcd_ok (ds := rngL 0 v0.toNat) ?_ ?_ ?_
      · have h1 : (-4611686018427387904 : Int) ≤ v0 ∧ v0 < 4611686018427387904 := by omega
        have r1 := r0.1
        simp only [Int.natCast_zero] at r1
        simp [tgN, tgT, tgNil, tgCons, seqF, appF, stoF, asgF, parF, ownL, liftS, dOp, dUn, dVar, dC, dCall, dCons, dNil, g1, g2, intD, lenD, modD, fdivD, mulD, addD, subD, negD, absD, intsD, setF, retF, ifF, dropF, dT, asB, asI, dAnd, dOr, dNot, dIf, dAndV, dOrV, dNotV, dTup, mkTup, dLst, mkLst, dChain, Res.bind, List.set, List.getElem?_cons_zero, List.getElem?_cons_succ, List.getElem?_nil, runF, startR, List.map_cons, List.map_nil, List.replicate, List.length_cons, List.length_nil, List.cons_append, List.nil_append, List.append_nil, ordD, eqD, neD, eqB, eqFlat, isD, isN, forF, dIt, dIts, itemsL, itemsT, itemsS, items, listD, tupleD, rng1, rng2, dYes, wipeR, dLc, dNoP, dPart, dSl, slD, slL, ixD, inD, ninD, inB, dTru, truB, strD, dStr, asS, joinD, joinZ, splitD, fmtD, dJoin, dJcons, dJnil, augF, guard_true, guardS_true, and_self, and_true, true_and, h1, r1]
      · rw [rngL_len]; exact hs
      · rw [lc_map (fun d => match d with | .int i => .int (idx (R.getD (2 * i.toNat + 1) 0) (R.getD (2 * i.toNat + 2) 0)) | d => d)]
        · unfold rngL
          rw [List.map_map, List.map_map]
          congr 1
          refine List.map_congr_left fun k hk => ?_
          simp
        · intro d hd
          obtain ⟨k, hk, rfl⟩ := rngL_mem hd
          refine ⟨_, rfl, rfl, ?_⟩
          have a1 := (rk k (by omega)).1
          have a2 := (rk2 k (by omega)).1
          have sm : smallI (2 : Int) := small_of (by omega) (by omega)
          have e1 : (2 : Int) * (0 + (k : Int)) + 1 = ((2 * k + 1 : Nat) : Int) := by omega
          have e2 : (2 : Int) * (0 + (k : Int)) + 2 = ((2 * k + 2 : Nat) : Int) := by omega
          have e3 : (0 + (k : Int)).toNat = k := by omega
          rw [call2_ok (d1 := .int (R.getD (2 * k + 1) 0)) (d2 := .int (R.getD (2 * k + 2) 0)), index_eq]
          · dsimp only; rw [e3]
          · rw [op_ok (d1 := iL R) (d2 := .int ((2 * k + 1 : Nat) : Int)) rfl]
            · exact ix_lst a1
            · rw [← e1]; simp [tgN, tgT, tgNil, tgCons, seqF, appF, stoF, asgF, parF, ownL, liftS, dOp, dUn, dVar, dC, dCall, dCons, dNil, g1, g2, intD, lenD, modD, fdivD, mulD, addD, subD, negD, absD, intsD, setF, retF, ifF, dropF, dT, asB, asI, dAnd, dOr, dNot, dIf, dAndV, dOrV, dNotV, dTup, mkTup, dLst, mkLst, dChain, Res.bind, List.set, List.getElem?_cons_zero, List.getElem?_cons_succ, List.getElem?_nil, runF, startR, List.map_cons, List.map_nil, List.replicate, List.length_cons, List.length_nil, List.cons_append, List.nil_append, List.append_nil, ordD, eqD, neD, eqB, eqFlat, isD, isN, forF, dIt, dIts, itemsL, itemsT, itemsS, items, listD, tupleD, rng1, rng2, dYes, wipeR, dLc, dNoP, dPart, dSl, slD, slL, ixD, inD, ninD, inB, dTru, truB, strD, dStr, asS, joinD, joinZ, splitD, fmtD, dJoin, dJcons, dJnil, augF, guard_true, guardS_true, and_self, and_true, true_and, sm]
          · rw [op_ok (d1 := iL R) (d2 := .int ((2 * k + 2 : Nat) : Int)) rfl]
            · exact ix_lst a2
            · rw [← e2]; simp [tgN, tgT, tgNil, tgCons, seqF, appF, stoF, asgF, parF, ownL, liftS, dOp, dUn, dVar, dC, dCall, dCons, dNil, g1, g2, intD, lenD, modD, fdivD, mulD, addD, subD, negD, absD, intsD, setF, retF, ifF, dropF, dT, asB, asI, dAnd, dOr, dNot, dIf, dAndV, dOrV, dNotV, dTup, mkTup, dLst, mkLst, dChain, Res.bind, List.set, List.getElem?_cons_zero, List.getElem?_cons_succ, List.getElem?_nil, runF, startR, List.map_cons, List.map_nil, List.replicate, List.length_cons, List.length_nil, List.cons_append, List.nil_append, List.append_nil, ordD, eqD, neD, eqB, eqFlat, isD, isN, forF, dIt, dIts, itemsL, itemsT, itemsS, items, listD, tupleD, rng1, rng2, dYes, wipeR, dLc, dNoP, dPart, dSl, slD, slL, ixD, inD, ninD, inB, dTru, truB, strD, dStr, asS, joinD, joinZ, splitD, fmtD, dJoin, dJcons, dJnil, augF, guard_true, guardS_true, and_self, and_true, true_and, sm]
  · intro i hi
    obtain ⟨k, hk, rfl⟩ := List.mem_map.mp hi
    have hk := List.mem_range.mp hk
    have := rk2 k (by omega)
    exact idx_small this.2.1 this.2.2
  · rw [List.length_map, List.length_range]
    omega
end Lk

end S_M_dr
section S_M_sp
set_option linter.all false
set_option maxHeartbeats 2000000
set_option maxRecDepth 100000
namespace Lk
open PySem L2 Dx TL
/-! ### spoilt texts -/
theorem tl_lo (z : Str) (p : Nat) (h : p ≤ z.length) : tl (cutS z none (some (p : Int))) = (tl z).take p := by
  unfold cutS
  rw [tl_mk, HT.sIx_none, HT.sIx_nat, Nat.min_eq_left h]
  simp [tl]
theorem tl_hi (z : Str) (p : Nat) : tl (cutS z (some (p : Int)) none) = (tl z).drop p := by
  unfold cutS
  rw [tl_mk, HT.sIx_none, HT.sIx_nat]
  have e : (tl z).length = z.length := (len_tl z).symm
  by_cases h : p ≤ z.length
  · rw [Nat.min_eq_left h]
    refine List.take_of_length_le ?_
    rw [List.length_drop]
    show (tl z).length - p ≤ _
    omega
  · rw [Nat.min_eq_right (by omega)]
    have : (tl z).drop p = [] := List.drop_eq_nil_of_le (by omega)
    rw [this, Nat.sub_self, List.take_zero]
theorem cnt_cut (l : List Nat) (p q : Nat) (h : p ≤ q) : (l.take p).count 46 + (l.drop q).count 46 ≤ l.count 46 := by
  have e : l.count 46 = (l.take p).count 46 + (l.drop p).count 46 := by
    rw [← List.count_append, List.take_append_drop]
  have : (l.drop q).count 46 ≤ (l.drop p).count 46 := by
    have hq : q = p + (q - p) := by omega
    rw [hq, ← List.drop_drop]
    exact (List.drop_sublist _ _).count_le 46
  omega
theorem len_cut (l : List Nat) (p q : Nat) (h : p ≤ q) : (l.take p).length + (l.drop q).length ≤ l.length := by
  simp; omega
def signL : List Str := ["0", "1", "7", ".", " ", "-", "+", "a", "r", "_", ",", "o"]
theorem sign_one : ∀ s ∈ signL, (tl s).length = 1 := by
  have : signL.all (fun s => (tl s).length == 1) = true := by decide +kernel
  intro s h
  have := List.all_eq_true.mp this s h
  simpa using this
theorem sign_at {k : Int} (h : 0 ≤ k) (h1 : k < 12) : ∃ s, atI (signL.map D.str) k = some (.str s) ∧ (tl s).length = 1 := by
  have e : k = ((k.toNat : Nat) : Int) := by omega
  have hk : k.toNat < signL.length := by simp [signL]; omega
  have q : atI (signL.map D.str) ((k.toNat : Nat) : Int) = some (.str signL[k.toNat]) := atI_nat (by rw [List.getElem?_map, List.getElem?_eq_getElem hk]; rfl)
  rw [← e] at q
  exact ⟨signL[k.toNat], q, sign_one _ (List.getElem_mem hk)⟩
theorem add_s {a b : Str} (h : a.length + b.length < 5000) : addD (.str a) (.str b) = .ok (.str (a ++ b)) := by
  show guard _ _ = _
  rw [guard_pos (Nat.le_trans (by omega) sz5)]
theorem len_app (a b : Str) : (a ++ b).length = a.length + b.length := by rw [len_tl, tl_append, List.length_append, ← len_tl, ← len_tl]
theorem spoilt_eq (w : Str) (kind place pick : Int) (hw : w.length < 1000) (h0 : 0 ≤ pick) (h1 : pick < 12) : ∃ w' : Str, F_l_spoilt [.str w, .int kind, .int place, .int pick] = .ok (.str w') ∧ w'.length ≤ w.length + 1 ∧ (tl w').count 46 ≤ (tl w).count 46 + 1 := by
  obtain ⟨s, hs, hs1⟩ := sign_at h0 h1
  have hlw : (tl w).length = w.length := (len_tl w).symm
  have hz : w.length ≤ sizeLine := Nat.le_trans (by omega) sz5
  have hsc : (tl s).count 46 ≤ 1 := by have := List.count_le_length (a := 46) (l := tl s); omega
  have hsl : s.length = 1 := by rw [len_tl]; exact hs1
  have hpos : (0 : Int) < ((w.length : Nat) : Int) + 1 := by omega
  have m0 := Int.emod_nonneg place (show ((w.length : Nat) : Int) + 1 ≠ 0 by omega)
  have m1 := Int.emod_lt_of_pos place hpos
  obtain ⟨p, hp⟩ : ∃ p : Nat, place % (((w.length : Nat) : Int) + 1) = (p : Int) := ⟨(place % (((w.length : Nat) : Int) + 1)).toNat, by omega⟩
  have hpl : p ≤ w.length := by omega
  have s1 : setF 4 (dOp ixD (dLst (dCons (dC (.str "0")) (dCons (dC (.str "1")) (dCons (dC (.str "7")) (dCons (dC (.str ".")) (dCons (dC (.str " ")) (dCons (dC (.str "-")) (dCons (dC (.str "+")) (dCons (dC (.str "a")) (dCons (dC (.str "r")) (dCons (dC (.str "_")) (dCons (dC (.str ",")) (dCons (dC (.str "o")) dNil))))))))))))) (dVar 3)) [some (.str w), some (.int kind), some (.int place), some (.int pick), none, none] = .nx [some (.str w), some (.int kind), some (.int place), some (.int pick), some (.str s), none] := by
    refine set_ok ?_
    have h12 : (12 : Nat) ≤ sizeLine := by decide
    rw [op_ok (d1 := .lst (signL.map D.str)) (d2 := .int pick)]
    · exact ix_lst hs
    · simp [tgN, tgT, tgNil, tgCons, seqF, appF, stoF, asgF, parF, ownL, liftS, dOp, dUn, dVar, dC, dCall, dCons, dNil, g1, g2, intD, lenD, modD, fdivD, mulD, addD, subD, negD, absD, intsD, setF, retF, ifF, dropF, dT, asB, asI, dAnd, dOr, dNot, dIf, dAndV, dOrV, dNotV, dTup, mkTup, dLst, mkLst, dChain, Res.bind, List.set, List.getElem?_cons_zero, List.getElem?_cons_succ, List.getElem?_nil, runF, startR, List.map_cons, List.map_nil, List.replicate, List.length_cons, List.length_nil, List.cons_append, List.nil_append, List.append_nil, ordD, eqD, neD, eqB, eqFlat, isD, isN, forF, dIt, dIts, itemsL, itemsT, itemsS, items, listD, tupleD, rng1, rng2, dYes, wipeR, dLc, dNoP, dPart, dSl, slD, slL, ixD, inD, ninD, inB, dTru, truB, strD, dStr, asS, joinD, joinZ, splitD, fmtD, dJoin, dJcons, dJnil, augF, guard_true, guardS_true, and_self, and_true, true_and, h12, signL]
    · rfl
  have s2 : setF 5 (dOp modD (dCall (g1 intD) (dCons (dVar 2) dNil)) (dOp addD (dCall (g1 lenD) (dCons (dVar 0) dNil)) (dC (.int 1)))) [some (.str w), some (.int kind), some (.int place), some (.int pick), some (.str s), none] = .nx [some (.str w), some (.int kind), some (.int place), some (.int pick), some (.str s), some (.int p)] := by
    simp [tgN, tgT, tgNil, tgCons, seqF, appF, stoF, asgF, parF, ownL, liftS, dOp, dUn, dVar, dC, dCall, dCons, dNil, g1, g2, intD, lenD, modD, fdivD, mulD, addD, subD, negD, absD, intsD, setF, retF, ifF, dropF, dT, asB, asI, dAnd, dOr, dNot, dIf, dAndV, dOrV, dNotV, dTup, mkTup, dLst, mkLst, dChain, Res.bind, List.set, List.getElem?_cons_zero, List.getElem?_cons_succ, List.getElem?_nil, runF, startR, List.map_cons, List.map_nil, List.replicate, List.length_cons, List.length_nil, List.cons_append, List.nil_append, List.append_nil, ordD, eqD, neD, eqB, eqFlat, isD, isN, forF, dIt, dIts, itemsL, itemsT, itemsS, items, listD, tupleD, rng1, rng2, dYes, wipeR, dLc, dNoP, dPart, dSl, slD, slL, ixD, inD, ninD, inB, dTru, truB, strD, dStr, asS, joinD, joinZ, splitD, fmtD, dJoin, dJcons, dJnil, augF, guard_true, guardS_true, and_self, and_true, true_and, hz, hpos, hp]
  have cA : ∀ r : Rho, r = [some (.str w), some (.int kind), some (.int place), some (.int pick), some (.str s), some (.int p)] → (dSl slD (dVar 0) dNoP (dPart (dVar 5))) r = .ok (.str (cutS w none (some (p : Int)))) := fun r hr => by
    subst hr
    simp [tgN, tgT, tgNil, tgCons, seqF, appF, stoF, asgF, parF, ownL, liftS, dOp, dUn, dVar, dC, dCall, dCons, dNil, g1, g2, intD, lenD, modD, fdivD, mulD, addD, subD, negD, absD, intsD, setF, retF, ifF, dropF, dT, asB, asI, dAnd, dOr, dNot, dIf, dAndV, dOrV, dNotV, dTup, mkTup, dLst, mkLst, dChain, Res.bind, List.set, List.getElem?_cons_zero, List.getElem?_cons_succ, List.getElem?_nil, runF, startR, List.map_cons, List.map_nil, List.replicate, List.length_cons, List.length_nil, List.cons_append, List.nil_append, List.append_nil, ordD, eqD, neD, eqB, eqFlat, isD, isN, forF, dIt, dIts, itemsL, itemsT, itemsS, items, listD, tupleD, rng1, rng2, dYes, wipeR, dLc, dNoP, dPart, dSl, slD, slL, ixD, inD, ninD, inB, dTru, truB, strD, dStr, asS, joinD, joinZ, splitD, fmtD, dJoin, dJcons, dJnil, augF, guard_true, guardS_true, and_self, and_true, true_and, hz]
  have cB : ∀ r : Rho, r = [some (.str w), some (.int kind), some (.int place), some (.int pick), some (.str s), some (.int p)] → (dSl slD (dVar 0) (dPart (dVar 5)) dNoP) r = .ok (.str (cutS w (some (p : Int)) none)) := fun r hr => by
    subst hr
    simp [tgN, tgT, tgNil, tgCons, seqF, appF, stoF, asgF, parF, ownL, liftS, dOp, dUn, dVar, dC, dCall, dCons, dNil, g1, g2, intD, lenD, modD, fdivD, mulD, addD, subD, negD, absD, intsD, setF, retF, ifF, dropF, dT, asB, asI, dAnd, dOr, dNot, dIf, dAndV, dOrV, dNotV, dTup, mkTup, dLst, mkLst, dChain, Res.bind, List.set, List.getElem?_cons_zero, List.getElem?_cons_succ, List.getElem?_nil, runF, startR, List.map_cons, List.map_nil, List.replicate, List.length_cons, List.length_nil, List.cons_append, List.nil_append, List.append_nil, ordD, eqD, neD, eqB, eqFlat, isD, isN, forF, dIt, dIts, itemsL, itemsT, itemsS, items, listD, tupleD, rng1, rng2, dYes, wipeR, dLc, dNoP, dPart, dSl, slD, slL, ixD, inD, ninD, inB, dTru, truB, strD, dStr, asS, joinD, joinZ, splitD, fmtD, dJoin, dJcons, dJnil, augF, guard_true, guardS_true, and_self, and_true, true_and, hz]
  have cC : ∀ r : Rho, r = [some (.str w), some (.int kind), some (.int place), some (.int pick), some (.str s), some (.int p)] → (dSl slD (dVar 0) (dPart (dOp addD (dVar 5) (dC (.int 1)))) dNoP) r = .ok (.str (cutS w (some ((p + 1 : Nat) : Int)) none)) := fun r hr => by
    subst hr
    simp [tgN, tgT, tgNil, tgCons, seqF, appF, stoF, asgF, parF, ownL, liftS, dOp, dUn, dVar, dC, dCall, dCons, dNil, g1, g2, intD, lenD, modD, fdivD, mulD, addD, subD, negD, absD, intsD, setF, retF, ifF, dropF, dT, asB, asI, dAnd, dOr, dNot, dIf, dAndV, dOrV, dNotV, dTup, mkTup, dLst, mkLst, dChain, Res.bind, List.set, List.getElem?_cons_zero, List.getElem?_cons_succ, List.getElem?_nil, runF, startR, List.map_cons, List.map_nil, List.replicate, List.length_cons, List.length_nil, List.cons_append, List.nil_append, List.append_nil, ordD, eqD, neD, eqB, eqFlat, isD, isN, forF, dIt, dIts, itemsL, itemsT, itemsS, items, listD, tupleD, rng1, rng2, dYes, wipeR, dLc, dNoP, dPart, dSl, slD, slL, ixD, inD, ninD, inB, dTru, truB, strD, dStr, asS, joinD, joinZ, splitD, fmtD, dJoin, dJcons, dJnil, augF, guard_true, guardS_true, and_self, and_true, true_and, hz]
  have tA := tl_lo w p hpl
  have tB := tl_hi w p
  have tC := tl_hi w (p + 1)
  have lA : (cutS w none (some (p : Int))).length + (cutS w (some (p : Int)) none).length ≤ w.length := by
    rw [len_tl, len_tl (cutS w (some (p : Int)) none), tA, tB, ← hlw]; exact len_cut _ _ _ (Nat.le_refl _)
  have lC : (cutS w none (some (p : Int))).length + (cutS w (some ((p + 1 : Nat) : Int)) none).length ≤ w.length := by
    rw [len_tl, len_tl (cutS w (some ((p + 1 : Nat) : Int)) none), tA, tC, ← hlw]; exact len_cut _ _ _ (by omega)
  have dA := cnt_cut (tl w) p p (Nat.le_refl _)
  have dC' := cnt_cut (tl w) p (p + 1) (by omega)
  have b : ∀ {d : D}, Fb_l_spoilt [some (.str w), some (.int kind), some (.int place), some (.int pick), none, none] = .rt d → F_l_spoilt [.str w, .int kind, .int place, .int pick] = .ok d := fun h => run_rt h
  by_cases k0 : kind = 0
  · refine ⟨cutS w none (some (p : Int)) ++ s ++ cutS w (some (p : Int)) none, b ?_, ?_, ?_⟩
    · rw [Fb_l_spoilt, seq_nx s1, seq_nx s2]
      refine seq_rt ((if_t (by simp [tgN, tgT, tgNil, tgCons, seqF, appF, stoF, asgF, parF, ownL, liftS, dOp, dUn, dVar, dC, dCall, dCons, dNil, g1, g2, intD, lenD, modD, fdivD, mulD, addD, subD, negD, absD, intsD, setF, retF, ifF, dropF, dT, asB, asI, dAnd, dOr, dNot, dIf, dAndV, dOrV, dNotV, dTup, mkTup, dLst, mkLst, dChain, Res.bind, List.set, List.getElem?_cons_zero, List.getElem?_cons_succ, List.getElem?_nil, runF, startR, List.map_cons, List.map_nil, List.replicate, List.length_cons, List.length_nil, List.cons_append, List.nil_append, List.append_nil, ordD, eqD, neD, eqB, eqFlat, isD, isN, forF, dIt, dIts, itemsL, itemsT, itemsS, items, listD, tupleD, rng1, rng2, dYes, wipeR, dLc, dNoP, dPart, dSl, slD, slL, ixD, inD, ninD, inB, dTru, truB, strD, dStr, asS, joinD, joinZ, splitD, fmtD, dJoin, dJcons, dJnil, augF, guard_true, guardS_true, and_self, and_true, true_and, k0])).trans (ret_ok ?_))
      rw [op_ok (op_ok (cA _ rfl) rfl |>.trans (add_s (by omega))) (cB _ rfl), add_s (by rw [len_app]; omega)]
    · rw [len_app, len_app]; omega
    · rw [tl_append, tl_append, List.count_append, List.count_append, tA, tB]; omega
  by_cases k1 : kind = 1
  · refine ⟨cutS w none (some (p : Int)) ++ cutS w (some ((p + 1 : Nat) : Int)) none, b ?_, ?_, ?_⟩
    · rw [Fb_l_spoilt, seq_nx s1, seq_nx s2, seq_nx (if_f (by simp [tgN, tgT, tgNil, tgCons, seqF, appF, stoF, asgF, parF, ownL, liftS, dOp, dUn, dVar, dC, dCall, dCons, dNil, g1, g2, intD, lenD, modD, fdivD, mulD, addD, subD, negD, absD, intsD, setF, retF, ifF, dropF, dT, asB, asI, dAnd, dOr, dNot, dIf, dAndV, dOrV, dNotV, dTup, mkTup, dLst, mkLst, dChain, Res.bind, List.set, List.getElem?_cons_zero, List.getElem?_cons_succ, List.getElem?_nil, runF, startR, List.map_cons, List.map_nil, List.replicate, List.length_cons, List.length_nil, List.cons_append, List.nil_append, List.append_nil, ordD, eqD, neD, eqB, eqFlat, isD, isN, forF, dIt, dIts, itemsL, itemsT, itemsS, items, listD, tupleD, rng1, rng2, dYes, wipeR, dLc, dNoP, dPart, dSl, slD, slL, ixD, inD, ninD, inB, dTru, truB, strD, dStr, asS, joinD, joinZ, splitD, fmtD, dJoin, dJcons, dJnil, augF, guard_true, guardS_true, and_self, and_true, true_and, k0]))]
      refine seq_rt ((if_t (by simp [tgN, tgT, tgNil, tgCons, seqF, appF, stoF, asgF, parF, ownL, liftS, dOp, dUn, dVar, dC, dCall, dCons, dNil, g1, g2, intD, lenD, modD, fdivD, mulD, addD, subD, negD, absD, intsD, setF, retF, ifF, dropF, dT, asB, asI, dAnd, dOr, dNot, dIf, dAndV, dOrV, dNotV, dTup, mkTup, dLst, mkLst, dChain, Res.bind, List.set, List.getElem?_cons_zero, List.getElem?_cons_succ, List.getElem?_nil, runF, startR, List.map_cons, List.map_nil, List.replicate, List.length_cons, List.length_nil, List.cons_append, List.nil_append, List.append_nil, ordD, eqD, neD, eqB, eqFlat, isD, isN, forF, dIt, dIts, itemsL, itemsT, itemsS, items, listD, tupleD, rng1, rng2, dYes, wipeR, dLc, dNoP, dPart, dSl, slD, slL, ixD, inD, ninD, inB, dTru, truB, strD, dStr, asS, joinD, joinZ, splitD, fmtD, dJoin, dJcons, dJnil, augF, guard_true, guardS_true, and_self, and_true, true_and, k1])).trans (ret_ok ?_))
      rw [op_ok (cA _ rfl) (cC _ rfl), add_s (by omega)]
    · rw [len_app]; omega
    · rw [tl_append, List.count_append, tA, tC]; omega
  · refine ⟨cutS w none (some (p : Int)) ++ s ++ cutS w (some ((p + 1 : Nat) : Int)) none, b ?_, ?_, ?_⟩
    · rw [Fb_l_spoilt, seq_nx s1, seq_nx s2, seq_nx (if_f (by simp [tgN, tgT, tgNil, tgCons, seqF, appF, stoF, asgF, parF, ownL, liftS, dOp, dUn, dVar, dC, dCall, dCons, dNil, g1, g2, intD, lenD, modD, fdivD, mulD, addD, subD, negD, absD, intsD, setF, retF, ifF, dropF, dT, asB, asI, dAnd, dOr, dNot, dIf, dAndV, dOrV, dNotV, dTup, mkTup, dLst, mkLst, dChain, Res.bind, List.set, List.getElem?_cons_zero, List.getElem?_cons_succ, List.getElem?_nil, runF, startR, List.map_cons, List.map_nil, List.replicate, List.length_cons, List.length_nil, List.cons_append, List.nil_append, List.append_nil, ordD, eqD, neD, eqB, eqFlat, isD, isN, forF, dIt, dIts, itemsL, itemsT, itemsS, items, listD, tupleD, rng1, rng2, dYes, wipeR, dLc, dNoP, dPart, dSl, slD, slL, ixD, inD, ninD, inB, dTru, truB, strD, dStr, asS, joinD, joinZ, splitD, fmtD, dJoin, dJcons, dJnil, augF, guard_true, guardS_true, and_self, and_true, true_and, k0])), seq_nx (if_f (by simp [tgN, tgT, tgNil, tgCons, seqF, appF, stoF, asgF, parF, ownL, liftS, dOp, dUn, dVar, dC, dCall, dCons, dNil, g1, g2, intD, lenD, modD, fdivD, mulD, addD, subD, negD, absD, intsD, setF, retF, ifF, dropF, dT, asB, asI, dAnd, dOr, dNot, dIf, dAndV, dOrV, dNotV, dTup, mkTup, dLst, mkLst, dChain, Res.bind, List.set, List.getElem?_cons_zero, List.getElem?_cons_succ, List.getElem?_nil, runF, startR, List.map_cons, List.map_nil, List.replicate, List.length_cons, List.length_nil, List.cons_append, List.nil_append, List.append_nil, ordD, eqD, neD, eqB, eqFlat, isD, isN, forF, dIt, dIts, itemsL, itemsT, itemsS, items, listD, tupleD, rng1, rng2, dYes, wipeR, dLc, dNoP, dPart, dSl, slD, slL, ixD, inD, ninD, inB, dTru, truB, strD, dStr, asS, joinD, joinZ, splitD, fmtD, dJoin, dJcons, dJnil, augF, guard_true, guardS_true, and_self, and_true, true_and, k1]))]
      refine ret_ok ?_
      rw [op_ok (op_ok (cA _ rfl) rfl |>.trans (add_s (by omega))) (cC _ rfl), add_s (by rw [len_app]; omega)]
    · rw [len_app, len_app]; omega
    · rw [tl_append, tl_append, List.count_append, List.count_append, tA, tC]; omega
end Lk

end S_M_sp
section S_M_la
set_option linter.all false
set_option maxHeartbeats 2000000
set_option maxRecDepth 100000
namespace Lk
open PySem L2 Dx TL
/-! ### odd texts -/
def oddA : Str := "|.|..|root.|.root|root.0|0.root|Root|roo|rootroot|00|0.01|1..2|1.|.1|-1|+1|1,2| 1|1 |1. 2"
def oddB : Str := "|0x1|1_0|1e1|1000000000000|0|10.0.100|1\n|root\n|\n"
theorem tl_bar : tl ("|" : Str) = [124] := by decide +kernel
theorem odd_parts : (Txt.split (oddA ++ oddB) "|").map tl = spl [124] 0 [] (tl oddA ++ tl oddB) := by
  rw [split_spl (oddA ++ oddB) "|" (by rw [tl_bar]; simp) (kind_ok (by decide +kernel)), tl_bar, tl_append]
theorem odd_len : (Txt.split (oddA ++ oddB) "|").length = 30 := by
  have := congrArg List.length odd_parts
  rw [List.length_map] at this
  rw [this]
  decide +kernel
theorem odd_all : ∀ z ∈ Txt.split (oddA ++ oddB) "|", z.length < 100 ∧ (tl z).count 46 < 12 := by
  have : (spl [124] 0 [] (tl oddA ++ tl oddB)).all (fun l => decide (l.length < 100 ∧ l.count 46 < 12)) = true := by decide +kernel
  intro z hz
  have h : tl z ∈ spl [124] 0 [] (tl oddA ++ tl oddB) := by rw [← odd_parts]; exact List.mem_map.mpr ⟨z, hz, rfl⟩
  have := List.all_eq_true.mp this _ h
  rw [len_tl]
  simpa using this
theorem odd_eq (k : Int) (h0 : 0 ≤ k) (h1 : k < 30) : ∃ w : Str, F_l_odd [.int k] = .ok (.str w) ∧ w.length < 100 ∧ (tl w).count 46 < 12 := by
  have hk : k.toNat < (Txt.split (oddA ++ oddB) "|").length := by rw [odd_len]; omega
  have e : k = ((k.toNat : Nat) : Int) := by omega
  have q : atI ((Txt.split (oddA ++ oddB) "|").map D.str) ((k.toNat : Nat) : Int) = some (.str (Txt.split (oddA ++ oddB) "|")[k.toNat]) := atI_nat (by rw [List.getElem?_map, List.getElem?_eq_getElem hk]; rfl)
  rw [← e] at q
  refine ⟨(Txt.split (oddA ++ oddB) "|")[k.toNat], run_rt ?_, odd_all _ (List.getElem_mem hk)⟩
  have lA : oddA.length < 200 := by decide +kernel
  have lB : oddB.length < 200 := by decide +kernel
  have hbar : ("|" : Str).length ≠ 0 := by decide +kernel
  show Fb_l_odd [some (.int k), none] = _
  rw [Fb_l_odd, seq_nx (set_ok (d := .str oddA) rfl), seq_nx (set_ok (d := .str (oddA ++ oddB)) ((op_ok (d1 := .str oddA) (d2 := .str oddB) rfl rfl).trans (add_s (by omega))))]
  refine ret_ok ?_
  rw [op_ok (d1 := .lst (strsD (Txt.split (oddA ++ oddB) "|"))) (d2 := .int k)]
  · exact ix_lst q
  · rw [str_ok (z := oddA ++ oddB) (d2 := .str "|") rfl rfl]
    have hs : (oddA ++ oddB).length + 2 ≤ sizeLine := by rw [len_app]; exact Nat.le_trans (by omega) sz5
    simp [splitD, hs, hbar, guard_true]
  · rfl
/-! ### layings -/
def oD : Option Int → D
  | none => .non
  | some g => .int g
def sD (s : Int × Option Int) : D := .tup [.int s.1, oD s.2]
def Fine (s : Int × Option Int) : Prop := (0 ≤ s.1 ∧ s.1 < 1000000000000) ∧ ∀ g, s.2 = some g → 0 ≤ g ∧ g < 1000000000000
theorem lay_loop (c : D) (l : D) (R : List Int) (many : Nat) (hm : many ≤ 8) (r1 : ∀ k, k < many → atI (R.map D.int) ((2 * k + 1 : Nat) : Int) = some (.int (R.getD (2 * k + 1) 0)) ∧ 0 ≤ R.getD (2 * k + 1) 0 ∧ R.getD (2 * k + 1) 0 < 4)
    (r2 : ∀ k, k < many → atI (R.map D.int) ((2 * k + 2 : Nat) : Int) = some (.int (R.getD (2 * k + 2) 0)) ∧ 0 ≤ R.getD (2 * k + 2) 0 ∧ R.getD (2 * k + 2) 0 < 8) : ∀ (m k : Nat) (acc : List (Int × Option Int)) (e left : Int) (x2 x7 : Option D), k + m = many → acc.length = k → 0 ≤ e → e ≤ 4 * k → 0 ≤ left → left ≤ 4 →
    ∃ sts e' left' y2 y7, loopF (tgN 2) Lp_l_laying_2 ((List.range' k m).map fun (i : Nat) => D.int (i : Int)) [some c, some l, x2, some (iL R), some (.lst (acc.map sD)), some (.int e), some (.int left), x7] = .nx [some c, some l, y2, some (iL R), some (.lst ((acc ++ sts).map sD)), some (.int e'), some (.int left'), y7] ∧ (∀ s ∈ sts, Fine s) ∧ sts.length = m
  | 0, k, acc, e, left, x2, x7, _, _, _, _, _, _ => ⟨[], e, left, x2, x7, by simp [loopF], by simp, rfl⟩
  | m + 1, k, acc, e, left, x2, x7, hk, ha, he0, he1, hl0, hl1 => by
    have sm : smallI (2 : Int) := small_of (by omega) (by omega)
    have e1 : (2 : Int) * (k : Int) + 1 = ((2 * k + 1 : Nat) : Int) := by omega
    have e2 : (2 : Int) * (k : Int) + 2 = ((2 * k + 2 : Nat) : Int) := by omega
    obtain ⟨a1, b1, c1⟩ := r1 k (by omega)
    obtain ⟨a2, b2, c2⟩ := r2 k (by omega)
    have hsz : acc.length < sizeLine := Nat.lt_of_lt_of_le (by omega) sz5
    have t2 : (2 : Nat) ≤ sizeLine := by decide
    generalize hu : R.getD (2 * k + 1) 0 = u at a1 b1 c1
    generalize hv : R.getD (2 * k + 2) 0 = v at a2 b2 c2
    have step : ∃ g left', Lp_l_laying_2 [some c, some l, some (.int k), some (iL R), some (.lst (acc.map sD)), some (.int e), some (.int left), x7] = .nx [some c, some l, some (.int k), some (iL R), some (.lst ((acc ++ [(e + u + 1, g)]).map sD)), some (.int (e + u + 1)), some (.int left'), some (oD g)] ∧ Fine (e + u + 1, g) ∧ 0 ≤ left' ∧ left' ≤ 4 := by
      by_cases k0 : k = 0
      · refine ⟨some 0, left, ?_, ⟨by simp; omega, by simp⟩, hl0, hl1⟩
        subst k0
        have a1' : atI (R.map D.int) 1 = some (.int u) := a1
        simp [Lp_l_laying_2, tgN, tgT, tgNil, tgCons, seqF, appF, stoF, asgF, parF, ownL, liftS, dOp, dUn, dVar, dC, dCall, dCons, dNil, g1, g2, intD, lenD, modD, fdivD, mulD, addD, subD, negD, absD, intsD, setF, retF, ifF, dropF, dT, asB, asI, dAnd, dOr, dNot, dIf, dAndV, dOrV, dNotV, dTup, mkTup, dLst, mkLst, dChain, Res.bind, List.set, List.getElem?_cons_zero, List.getElem?_cons_succ, List.getElem?_nil, runF, startR, List.map_cons, List.map_nil, List.replicate, List.length_cons, List.length_nil, List.cons_append, List.nil_append, List.append_nil, ordD, eqD, neD, eqB, eqFlat, isD, isN, forF, dIt, dIts, itemsL, itemsT, itemsS, items, listD, tupleD, rng1, rng2, dYes, wipeR, dLc, dNoP, dPart, dSl, slD, slL, ixD, inD, ninD, inB, dTru, truB, strD, dStr, asS, joinD, joinZ, splitD, fmtD, dJoin, dJcons, dJnil, augF, guard_true, guardS_true, and_self, and_true, true_and, sm, a1', hsz, t2, sD, oD]
      · have k0' : ¬ ((k : Nat) : Int) = 0 := by omega
        rw [← e1] at a1
        rw [← e2] at a2
        by_cases hv5 : v < 5
        · refine ⟨some (min v left), left - min v left, ?_, ⟨by simp; omega, by simp; omega⟩, by omega, by omega⟩
          simp [Lp_l_laying_2, tgN, tgT, tgNil, tgCons, seqF, appF, stoF, asgF, parF, ownL, liftS, dOp, dUn, dVar, dC, dCall, dCons, dNil, g1, g2, intD, lenD, modD, fdivD, mulD, addD, subD, negD, absD, intsD, setF, retF, ifF, dropF, dT, asB, asI, dAnd, dOr, dNot, dIf, dAndV, dOrV, dNotV, dTup, mkTup, dLst, mkLst, dChain, Res.bind, List.set, List.getElem?_cons_zero, List.getElem?_cons_succ, List.getElem?_nil, runF, startR, List.map_cons, List.map_nil, List.replicate, List.length_cons, List.length_nil, List.cons_append, List.nil_append, List.append_nil, ordD, eqD, neD, eqB, eqFlat, isD, isN, forF, dIt, dIts, itemsL, itemsT, itemsS, items, listD, tupleD, rng1, rng2, dYes, wipeR, dLc, dNoP, dPart, dSl, slD, slL, ixD, inD, ninD, inB, dTru, truB, strD, dStr, asS, joinD, joinZ, splitD, fmtD, dJoin, dJcons, dJnil, augF, guard_true, guardS_true, and_self, and_true, true_and, sm, a1, a2, hsz, t2, sD, oD, k0', k0, hv5, min2]
          omega
        · refine ⟨none, left, ?_, ⟨by simp; omega, by simp⟩, hl0, hl1⟩
          simp [Lp_l_laying_2, tgN, tgT, tgNil, tgCons, seqF, appF, stoF, asgF, parF, ownL, liftS, dOp, dUn, dVar, dC, dCall, dCons, dNil, g1, g2, intD, lenD, modD, fdivD, mulD, addD, subD, negD, absD, intsD, setF, retF, ifF, dropF, dT, asB, asI, dAnd, dOr, dNot, dIf, dAndV, dOrV, dNotV, dTup, mkTup, dLst, mkLst, dChain, Res.bind, List.set, List.getElem?_cons_zero, List.getElem?_cons_succ, List.getElem?_nil, runF, startR, List.map_cons, List.map_nil, List.replicate, List.length_cons, List.length_nil, List.cons_append, List.nil_append, List.append_nil, ordD, eqD, neD, eqB, eqFlat, isD, isN, forF, dIt, dIts, itemsL, itemsT, itemsS, items, listD, tupleD, rng1, rng2, dYes, wipeR, dLc, dNoP, dPart, dSl, slD, slL, ixD, inD, ninD, inB, dTru, truB, strD, dStr, asS, joinD, joinZ, splitD, fmtD, dJoin, dJcons, dJnil, augF, guard_true, guardS_true, and_self, and_true, true_and, sm, a1, a2, hsz, t2, sD, oD, k0', k0, hv5]
    obtain ⟨g, left', h1, h2, h3, h4⟩ := step
    obtain ⟨sts, e'', left'', y2, y7, q1, q2, q3⟩ := lay_loop c l R many hm r1 r2 m (k + 1) (acc ++ [(e + u + 1, g)]) (e + u + 1) left' (some (.int k)) (some (oD g)) (by omega) (by simp; omega) (by omega) (by omega) h3 h4
    refine ⟨(e + u + 1, g) :: sts, e'', left'', y2, y7, ?_, ?_, by simp [q3]⟩
    · rw [List.range'_succ, List.map_cons, loop_nx (r1 := [some c, some l, some (.int k), some (iL R), some (.lst (acc.map sD)), some (.int e), some (.int left), x7]) rfl h1, q1]
      simp
    · intro s hs
      rcases List.mem_cons.mp hs with rfl | hs
      · exact h2
      · exact q2 s hs
theorem la_lim (c : Int) (l : List Int) (d : D) (hl : l.length < 1000) : Lp_l_laying_1 [some (.int c), some (iL l), some d, none, none, none, none, none] = .nx [some (.int c), some (iL (l ++ [4, 8])), some d, none, none, none, none, none] := by
  have hz : l.length + 2 ≤ sizeLine := Nat.le_trans (by omega) sz5
  have h2 : (2 : Nat) ≤ sizeLine := by decide
  simp [Lp_l_laying_1, tgN, tgT, tgNil, tgCons, seqF, appF, stoF, asgF, parF, ownL, liftS, dOp, dUn, dVar, dC, dCall, dCons, dNil, g1, g2, intD, lenD, modD, fdivD, mulD, addD, subD, negD, absD, intsD, setF, retF, ifF, dropF, dT, asB, asI, dAnd, dOr, dNot, dIf, dAndV, dOrV, dNotV, dTup, mkTup, dLst, mkLst, dChain, Res.bind, List.set, List.getElem?_cons_zero, List.getElem?_cons_succ, List.getElem?_nil, runF, startR, List.map_cons, List.map_nil, List.replicate, List.length_cons, List.length_nil, List.cons_append, List.nil_append, List.append_nil, ordD, eqD, neD, eqB, eqFlat, isD, isN, forF, dIt, dIts, itemsL, itemsT, itemsS, items, listD, tupleD, rng1, rng2, dYes, wipeR, dLc, dNoP, dPart, dSl, slD, slL, ixD, inD, ninD, inB, dTru, truB, strD, dStr, asS, joinD, joinZ, splitD, fmtD, dJoin, dJcons, dJnil, augF, guard_true, guardS_true, and_self, and_true, true_and, hz, h2]
theorem rng0 (n : Nat) : rngL 0 n = (List.range' 0 n).map fun (i : Nat) => D.int (i : Int) := by
  unfold rngL
  rw [List.range_eq_range']
  refine List.map_congr_left fun k hk => ?_
  simp
theorem laying_eq (c : Int) : ∃ sts : List (Int × Option Int), F_l_laying [.int c] = .ok (.tup (sts.map sD)) ∧ (∀ s ∈ sts, Fine s) ∧ sts.length ≤ 8 := by
  have hlp : ∀ l ∈ [(9 : Int)] ++ lim2 4 8 8, 0 < l ∧ l < 4611686018427387904 := fun l h => by
    rw [List.mem_append] at h
    rcases h with h | h
    · simp at h; omega
    · rcases lim2_mem _ _ _ _ h with rfl | rfl <;> omega
  have hll : ([(9 : Int)] ++ lim2 4 8 8).length < 100000 := by decide
  generalize hL : [(9 : Int)] ++ lim2 4 8 8 = L at hlp hll
  have hL0 : L[0]? = some 9 := by rw [← hL]; rfl
  have hLk : ∀ k, k < 8 → L[2 * k + 1]? = some 4 ∧ L[2 * k + 2]? = some 8 := fun k hk => by
    have := lim2_get 4 8 8 k hk
    rw [← hL]
    exact this
  have hp : ∀ l ∈ L, 0 < l := fun l h => (hlp l h).1
  have r0 := row_at (c := c) hp hL0
  have rk : ∀ k, k < 8 → _ := fun k hk => row_at (c := c) hp (hLk k hk).1
  have rk2 : ∀ k, k < 8 → _ := fun k hk => row_at (c := c) hp (hLk k hk).2
  have hrow := row_eq c L hlp hll
  generalize rowL c L = R at r0 rk rk2 hrow
  generalize hv0 : R.getD 0 0 = v0 at r0
  have h1 : (1 : Nat) ≤ sizeLine := by decide
  have h2 : (2 : Nat) ≤ sizeLine := by decide
  obtain ⟨y, s3⟩ := lim_step (F := Lp_l_laying_1) (E := fun l x => [some (.int c), some (iL l), x, none, none, none, none, none]) (m := 9) (a := 4) (b := 8) (i := 2) (fun _ _ _ => rfl) (fun l d hl => la_lim c l d hl) 8 0 (rngL 0 8) none (rngL_len _ _) (by omega)
  obtain ⟨sts, e', left', y2, y7, q1, q2, q3⟩ := lay_loop (.int c) (iL L) R v0.toNat (by omega) (fun k hk => rk k (by omega)) (fun k hk => rk2 k (by omega)) v0.toNat 0 [] 0 4 y none (by omega) rfl (by omega) (by omega) (by omega) (by omega)
  refine ⟨sts, run_rt ?_, q2, by omega⟩
  show Fb_l_laying [some (.int c), none, none, none, none, none, none, none] = _
  have s1 : setF 1 (dLst (dCons (dC (.int 9)) dNil)) [some (.int c), none, none, none, none, none, none, none] = .nx [some (.int c), some (iL ([(9 : Int)] ++ lim2 4 8 0)), none, none, none, none, none, none] := by
    simp [tgN, tgT, tgNil, tgCons, seqF, appF, stoF, asgF, parF, ownL, liftS, dOp, dUn, dVar, dC, dCall, dCons, dNil, g1, g2, intD, lenD, modD, fdivD, mulD, addD, subD, negD, absD, intsD, setF, retF, ifF, dropF, dT, asB, asI, dAnd, dOr, dNot, dIf, dAndV, dOrV, dNotV, dTup, mkTup, dLst, mkLst, dChain, Res.bind, List.set, List.getElem?_cons_zero, List.getElem?_cons_succ, List.getElem?_nil, runF, startR, List.map_cons, List.map_nil, List.replicate, List.length_cons, List.length_nil, List.cons_append, List.nil_append, List.append_nil, ordD, eqD, neD, eqB, eqFlat, isD, isN, forF, dIt, dIts, itemsL, itemsT, itemsS, items, listD, tupleD, rng1, rng2, dYes, wipeR, dLc, dNoP, dPart, dSl, slD, slL, ixD, inD, ninD, inB, dTru, truB, strD, dStr, asS, joinD, joinZ, splitD, fmtD, dJoin, dJcons, dJnil, augF, guard_true, guardS_true, and_self, and_true, true_and, h1, lim2]
  have s2 : (dIts rng1 (dCons (dC (.int 8)) dNil)) [some (.int c), some (iL ([(9 : Int)] ++ lim2 4 8 0)), none, none, none, none, none, none] = .ok (rngL 0 8) := by
    simp [tgN, tgT, tgNil, tgCons, seqF, appF, stoF, asgF, parF, ownL, liftS, dOp, dUn, dVar, dC, dCall, dCons, dNil, g1, g2, intD, lenD, modD, fdivD, mulD, addD, subD, negD, absD, intsD, setF, retF, ifF, dropF, dT, asB, asI, dAnd, dOr, dNot, dIf, dAndV, dOrV, dNotV, dTup, mkTup, dLst, mkLst, dChain, Res.bind, List.set, List.getElem?_cons_zero, List.getElem?_cons_succ, List.getElem?_nil, runF, startR, List.map_cons, List.map_nil, List.replicate, List.length_cons, List.length_nil, List.cons_append, List.nil_append, List.append_nil, ordD, eqD, neD, eqB, eqFlat, isD, isN, forF, dIt, dIts, itemsL, itemsT, itemsS, items, listD, tupleD, rng1, rng2, dYes, wipeR, dLc, dNoP, dPart, dSl, slD, slL, ixD, inD, ninD, inB, dTru, truB, strD, dStr, asS, joinD, joinZ, splitD, fmtD, dJoin, dJcons, dJnil, augF, guard_true, guardS_true, and_self, and_true, true_and]
  have s5 : setF 4 (dLst dNil) [some (.int c), some (iL L), y, some (iL R), none, none, none, none] = .nx [some (.int c), some (iL L), y, some (iL R), some (.lst []), none, none, none] := by
    simp [tgN, tgT, tgNil, tgCons, seqF, appF, stoF, asgF, parF, ownL, liftS, dOp, dUn, dVar, dC, dCall, dCons, dNil, g1, g2, intD, lenD, modD, fdivD, mulD, addD, subD, negD, absD, intsD, setF, retF, ifF, dropF, dT, asB, asI, dAnd, dOr, dNot, dIf, dAndV, dOrV, dNotV, dTup, mkTup, dLst, mkLst, dChain, Res.bind, List.set, List.getElem?_cons_zero, List.getElem?_cons_succ, List.getElem?_nil, runF, startR, List.map_cons, List.map_nil, List.replicate, List.length_cons, List.length_nil, List.cons_append, List.nil_append, List.append_nil, ordD, eqD, neD, eqB, eqFlat, isD, isN, forF, dIt, dIts, itemsL, itemsT, itemsS, items, listD, tupleD, rng1, rng2, dYes, wipeR, dLc, dNoP, dPart, dSl, slD, slL, ixD, inD, ninD, inB, dTru, truB, strD, dStr, asS, joinD, joinZ, splitD, fmtD, dJoin, dJcons, dJnil, augF, guard_true, guardS_true, and_self, and_true, true_and]
  have s6 : (asgF (tgT 2 (tgCons (tgN 5) (tgCons (tgN 6) tgNil))) (dTup (dCons (dC (.int 0)) (dCons (dC (.int 4)) dNil)))) [some (.int c), some (iL L), y, some (iL R), some (.lst []), none, none, none] = .nx [some (.int c), some (iL L), y, some (iL R), some (.lst []), some (.int 0), some (.int 4), none] := by
    simp [tgN, tgT, tgNil, tgCons, seqF, appF, stoF, asgF, parF, ownL, liftS, dOp, dUn, dVar, dC, dCall, dCons, dNil, g1, g2, intD, lenD, modD, fdivD, mulD, addD, subD, negD, absD, intsD, setF, retF, ifF, dropF, dT, asB, asI, dAnd, dOr, dNot, dIf, dAndV, dOrV, dNotV, dTup, mkTup, dLst, mkLst, dChain, Res.bind, List.set, List.getElem?_cons_zero, List.getElem?_cons_succ, List.getElem?_nil, runF, startR, List.map_cons, List.map_nil, List.replicate, List.length_cons, List.length_nil, List.cons_append, List.nil_append, List.append_nil, ordD, eqD, neD, eqB, eqFlat, isD, isN, forF, dIt, dIts, itemsL, itemsT, itemsS, items, listD, tupleD, rng1, rng2, dYes, wipeR, dLc, dNoP, dPart, dSl, slD, slL, ixD, inD, ninD, inB, dTru, truB, strD, dStr, asS, joinD, joinZ, splitD, fmtD, dJoin, dJcons, dJnil, augF, guard_true, guardS_true, and_self, and_true, true_and, h2]
  have s7 : (dIts rng1 (dCons (dOp ixD (dVar 3) (dC (.int 0))) dNil)) [some (.int c), some (iL L), y, some (iL R), some (.lst []), some (.int 0), some (.int 4), none] = .ok (rngL 0 v0.toNat) := by
    have h1 : (-4611686018427387904 : Int) ≤ v0 ∧ v0 < 4611686018427387904 := by omega
    have r1 := r0.1
    simp only [Int.natCast_zero] at r1
    simp [tgN, tgT, tgNil, tgCons, seqF, appF, stoF, asgF, parF, ownL, liftS, dOp, dUn, dVar, dC, dCall, dCons, dNil, g1, g2, intD, lenD, modD, fdivD, mulD, addD, subD, negD, absD, intsD, setF, retF, ifF, dropF, dT, asB, asI, dAnd, dOr, dNot, dIf, dAndV, dOrV, dNotV, dTup, mkTup, dLst, mkLst, dChain, Res.bind, List.set, List.getElem?_cons_zero, List.getElem?_cons_succ, List.getElem?_nil, runF, startR, List.map_cons, List.map_nil, List.replicate, List.length_cons, List.length_nil, List.cons_append, List.nil_append, List.append_nil, ordD, eqD, neD, eqB, eqFlat, isD, isN, forF, dIt, dIts, itemsL, itemsT, itemsS, items, listD, tupleD, rng1, rng2, dYes, wipeR, dLc, dNoP, dPart, dSl, slD, slL, ixD, inD, ninD, inB, dTru, truB, strD, dStr, asS, joinD, joinZ, splitD, fmtD, dJoin, dJcons, dJnil, augF, guard_true, guardS_true, and_self, and_true, true_and, h1, r1]
  rw [Fb_l_laying, seq_nx s1, seq_nx ((for_ok s2).trans s3), Nat.zero_add, hL, seq_nx (set_ok (d := iL R) ((call2_ok rfl rfl).trans hrow))]
  refine (seq_nx s5).trans ((seq_nx s6).trans ((seq_nx ((for_ok (s7.trans (by rw [rng0]))).trans q1)).trans (ret_ok ?_)))
  rw [call1_ok (d1 := .lst (sts.map sD)) (by rfl)]
  rfl
/-! ### lines -/
def lineS (s : Int × Option Int) : Str := match s.2 with
  | none => nS s.1
  | some g => nS s.1 ++ " column " ++ nS g
theorem col_len : (" column " : Str).length = 8 := by decide +kernel
theorem emp_app (a : Str) : Str.empty ++ a = a := ext_tl (by rw [tl_append]; rfl)
theorem str_n {i : Int} (h : 0 ≤ i) (h1 : i < 1000000000000) : g1 strD [.int i] = .ok (.str (nS i)) := by
  show guard _ _ = _
  rw [guard_pos (log_small h h1)]
  rfl
theorem fmt_n {i : Int} (h : 0 ≤ i) (h1 : i < 1000000000000) : fmtD (.int i) = .ok (.str (nS i)) := by
  show guard _ _ = _
  rw [guard_pos (log_small h h1)]
  rfl
theorem jc_ok {f : Rho → Res D} {g : Str → Rho → Res D} {acc y : Str} {r : Rho} (h : f r = .ok (.str y)) (hl : (acc ++ y).length < 5000) : dJcons f g acc r = g (acc ++ y) r := by
  unfold dJcons
  rw [h]
  show guard _ _ = _
  rw [guard_pos (Nat.le_trans (by omega) sz5)]
theorem li_loop (T : D) : ∀ (sts : List (Int × Option Int)) (acc : List Str) (x2 : Option D), (∀ s ∈ sts, Fine s) → acc.length + sts.length < 1000 →
    ∃ y2, loopF (tgN 2) Lp_l_lines_1 (sts.map sD) [some T, some (.lst (strsD acc)), x2] = .nx [some T, some (.lst (strsD (acc ++ sts.map lineS))), y2]
  | [], acc, x2, _, _ => ⟨x2, by simp [loopF]⟩
  | (e, g) :: sts, acc, x2, hf, hn => by
    obtain ⟨y2, h⟩ := li_loop T sts (acc ++ [lineS (e, g)]) (some (sD (e, g))) (fun s hs => hf s (by simp [hs])) (by simp at hn ⊢; omega)
    refine ⟨y2, ?_⟩
    obtain ⟨⟨f1, f2⟩, f3⟩ := hf (e, g) (by simp)
    have l1 := log_small f1 f2
    have n1 : (nS e).length ≤ 12 := nS_len f1 f2
    have hsz : (strsD acc).length < sizeLine := Nat.lt_of_lt_of_le (by simp [strsD] at hn ⊢; omega) sz5
    have step : Lp_l_lines_1 [some T, some (.lst (strsD acc)), some (sD (e, g))] = .nx [some T, some (.lst (strsD (acc ++ [lineS (e, g)]))), some (sD (e, g))] := by
      have i0 : atI [D.int e, oD g] 0 = some (.int e) := rfl
      have i1 : atI [D.int e, oD g] 1 = some (oD g) := rfl
      have rr : strsD acc ++ [D.str (lineS (e, g))] = strsD (acc ++ [lineS (e, g)]) := by simp [strsD]
      have c0 : dOp ixD (dVar 2) (dC (.int 0)) [some T, some (.lst (strsD acc)), some (sD (e, g))] = .ok (.int e) := (op_ok (d1 := sD (e, g)) (d2 := .int 0) rfl rfl).trans (ix_tup i0)
      have c1 : dOp ixD (dVar 2) (dC (.int 1)) [some T, some (.lst (strsD acc)), some (sD (e, g))] = .ok (oD g) := (op_ok (d1 := sD (e, g)) (d2 := .int 1) rfl rfl).trans (ix_tup i1)
      have w0 : dCall (g1 strD) (dCons (dOp ixD (dVar 2) (dC (.int 0))) dNil) [some T, some (.lst (strsD acc)), some (sD (e, g))] = .ok (.str (nS e)) := (call1_ok c0).trans (str_n f1 f2)
      cases g with
      | none =>
        rw [Lp_l_lines_1, if_t (T_ok ((op_ok (d2 := .non) c1 rfl).trans rfl)), app_ok (ds := strsD acc) rfl w0 hsz, ← rr]
        rfl
      | some g =>
        obtain ⟨g1, g2⟩ := f3 g rfl
        have n2 := nS_len g1 g2
        rw [Lp_l_lines_1, if_f (T_ok ((op_ok (d2 := .non) c1 rfl).trans rfl)), app_ok (ds := strsD acc) (d := .str (lineS (e, some g))) rfl ?_ hsz, ← rr]
        · rfl
        · rw [op_ok ((op_ok (d2 := .str " column ") w0 rfl).trans (add_s (by rw [col_len]; omega))) ((call1_ok c1).trans (str_n g1 g2)), add_s (by rw [len_app, col_len]; omega)]
          rfl
    rw [List.map_cons, loop_nx (r1 := [some T, some (.lst (strsD acc)), some (sD (e, g))]) rfl step, h]
    simp
theorem lines_eq (sts : List (Int × Option Int)) (h : ∀ s ∈ sts, Fine s) (hn : sts.length ≤ 8) : F_l_lines [.tup (sts.map sD)] = .ok (.lst (strsD (sts.map lineS))) := by
  obtain ⟨y, q⟩ := li_loop (.tup (sts.map sD)) sts [] none h (by simp; omega)
  refine run_rt ?_
  show Fb_l_lines [some (.tup (sts.map sD)), none, none] = _
  have s1 : setF 1 (dLst dNil) [some (.tup (sts.map sD)), none, none] = .nx [some (.tup (sts.map sD)), some (.lst (strsD [])), none] := by simp [tgN, tgT, tgNil, tgCons, seqF, appF, stoF, asgF, parF, ownL, liftS, dOp, dUn, dVar, dC, dCall, dCons, dNil, g1, g2, intD, lenD, modD, fdivD, mulD, addD, subD, negD, absD, intsD, setF, retF, ifF, dropF, dT, asB, asI, dAnd, dOr, dNot, dIf, dAndV, dOrV, dNotV, dTup, mkTup, dLst, mkLst, dChain, Res.bind, List.set, List.getElem?_cons_zero, List.getElem?_cons_succ, List.getElem?_nil, runF, startR, List.map_cons, List.map_nil, List.replicate, List.length_cons, List.length_nil, List.cons_append, List.nil_append, List.append_nil, ordD, eqD, neD, eqB, eqFlat, isD, isN, forF, dIt, dIts, itemsL, itemsT, itemsS, items, listD, tupleD, rng1, rng2, dYes, wipeR, dLc, dNoP, dPart, dSl, slD, slL, ixD, inD, ninD, inB, dTru, truB, strD, dStr, asS, joinD, joinZ, splitD, fmtD, dJoin, dJcons, dJnil, augF, guard_true, guardS_true, and_self, and_true, true_and, strsD]
  rw [Fb_l_lines, seq_nx s1, seq_nx ((for_ok rfl).trans q)]
  rfl
theorem wl_loop (T : D) : ∀ (sts : List (Int × Option Int)) (acc : List Str) (x2 x3 : Option D), (∀ s ∈ sts, Fine s) → acc.length + sts.length < 1000 →
    ∃ y2 y3, loopF (tgT 2 (tgCons (tgN 2) (tgCons (tgN 3) tgNil))) Lp_write_laying_1 (sts.map sD) [some T, some (.lst (strsD acc)), x2, x3] = .nx [some T, some (.lst (strsD (acc ++ sts.map lineS))), y2, y3]
  | [], acc, x2, x3, _, _ => ⟨x2, x3, by simp [loopF]⟩
  | (e, g) :: sts, acc, x2, x3, hf, hn => by
    obtain ⟨y2, y3, h⟩ := wl_loop T sts (acc ++ [lineS (e, g)]) (some (.int e)) (some (oD g)) (fun s hs => hf s (by simp [hs])) (by simp at hn ⊢; omega)
    refine ⟨y2, y3, ?_⟩
    obtain ⟨⟨f1, f2⟩, f3⟩ := hf (e, g) (by simp)
    have l1 := log_small f1 f2
    have n1 : (nS e).length ≤ 12 := nS_len f1 f2
    have hsz : (strsD acc).length < sizeLine := Nat.lt_of_lt_of_le (by simp [strsD] at hn ⊢; omega) sz5
    have step : Lp_write_laying_1 [some T, some (.lst (strsD acc)), some (.int e), some (oD g)] = .nx [some T, some (.lst (strsD (acc ++ [lineS (e, g)]))), some (.int e), some (oD g)] := by
      have rr : strsD acc ++ [D.str (lineS (e, g))] = strsD (acc ++ [lineS (e, g)]) := by simp [strsD]
      cases g with
      | none =>
        rw [Lp_write_laying_1, if_t (T_ok ((op_ok (d1 := .non) (d2 := .non) rfl rfl).trans rfl)), app_ok (ds := strsD acc) (d := .str (nS e)) rfl ((call1_ok (d1 := .int e) rfl).trans (str_n f1 f2)) hsz, ← rr]
        rfl
      | some g =>
        obtain ⟨g1, g2⟩ := f3 g rfl
        have n2 := nS_len g1 g2
        rw [Lp_write_laying_1, if_f (T_ok ((op_ok (d1 := .int g) (d2 := .non) rfl rfl).trans rfl)), app_ok (ds := strsD acc) (d := .str (lineS (e, some g))) rfl ?_ hsz, ← rr]
        · rfl
        · unfold dJoin
          rw [jc_ok (y := nS e) ((un_ok (d1 := .int e) rfl).trans (fmt_n f1 f2)) (by rw [emp_app]; omega), emp_app, jc_ok (y := " column ") rfl (by rw [len_app, col_len]; omega), jc_ok (y := nS g) ((un_ok (d1 := .int g) rfl).trans (fmt_n g1 g2)) (by rw [len_app, len_app, col_len]; omega)]
          rfl
    rw [List.map_cons, loop_nx (r1 := [some T, some (.lst (strsD acc)), some (.int e), some (oD g)]) rfl step, h]
    simp
theorem wl_eq (sts : List (Int × Option Int)) (h : ∀ s ∈ sts, Fine s) (hn : sts.length ≤ 8) : F_write_laying [.tup (sts.map sD)] = .ok (.lst (strsD (sts.map lineS))) := by
  obtain ⟨y, y3, q⟩ := wl_loop (.tup (sts.map sD)) sts [] none none h (by simp; omega)
  have s1 : setF 1 (dLst dNil) [some (.tup (sts.map sD)), none, none, none] = .nx [some (.tup (sts.map sD)), some (.lst (strsD [])), none, none] := by simp [tgN, tgT, tgNil, tgCons, seqF, appF, stoF, asgF, parF, ownL, liftS, dOp, dUn, dVar, dC, dCall, dCons, dNil, g1, g2, intD, lenD, modD, fdivD, mulD, addD, subD, negD, absD, intsD, setF, retF, ifF, dropF, dT, asB, asI, dAnd, dOr, dNot, dIf, dAndV, dOrV, dNotV, dTup, mkTup, dLst, mkLst, dChain, Res.bind, List.set, List.getElem?_cons_zero, List.getElem?_cons_succ, List.getElem?_nil, runF, startR, List.map_cons, List.map_nil, List.replicate, List.length_cons, List.length_nil, List.cons_append, List.nil_append, List.append_nil, ordD, eqD, neD, eqB, eqFlat, isD, isN, forF, dIt, dIts, itemsL, itemsT, itemsS, items, listD, tupleD, rng1, rng2, dYes, wipeR, dLc, dNoP, dPart, dSl, slD, slL, ixD, inD, ninD, inB, dTru, truB, strD, dStr, asS, joinD, joinZ, splitD, fmtD, dJoin, dJcons, dJnil, augF, guard_true, guardS_true, and_self, and_true, true_and, strsD]
  refine run_rt ?_
  show Fb_write_laying [some (.tup (sts.map sD)), none, none, none] = _
  rw [Fb_write_laying, seq_nx s1, seq_nx ((for_ok rfl).trans q)]
  rfl
end Lk

end S_M_la
section S_P_math
set_option linter.all false
set_option maxHeartbeats 2000000
set_option maxRecDepth 100000
namespace Lk
open PySem L2 Dx TL
theorem plc_len {w : Str} (hw : (tl w).count 46 < 12) {ns : List Int} (h : plc w = some ns) : ns.length < 100000 := by
  unfold plc at h
  split at h
  · cases h; simp
  · have := pvs_len h
    have := parts_len w
    omega
theorem same_read (w : Str) (hw : w.length < 1000) (hc : (tl w).count 46 < 12) : F_l_same 4 [ansD w, ansD w] = .ok (.bl true) := same_ans w fun ns h => plc_len hc h
theorem ans_wr {is : List Int} (h : Small is) : ansD (wr is) = .tup [.str "read", iT is] := by
  unfold ansD
  rw [plc_wr h]
theorem same_strs (n : Nat) (zs : List Str) (h : zs.length < 100000) : F_l_same (n + 2) [.lst (strsD zs), .lst (strsD zs)] = .ok (.bl true) := by
  refine same_lst (by simpa [strsD] using h) fun d hd => ?_
  obtain ⟨z, _, rfl⟩ := List.mem_map.mp hd
  exact same_str _ _
theorem law_lp (x0 x1 x2 x3 x4 x5 x6 x8 x9 x10 : Option D) (is : List Int) (h : Small is) (hn : is.length ≤ 12) (e1 : x1 = some (iT is)) (e2 : x2 = some (.str (wr is))) : ∀ (ws : List Str) (x7 : Option D), (∀ w ∈ ws, w.length < 1000 ∧ (tl w).count 46 < 12) →
    ∃ y7, loopF (tgN 7) Lp_law_1 (strsD ws) [x0, x1, x2, x3, x4, x5, x6, x7, x8, x9, x10] = .nx [x0, x1, x2, x3, x4, x5, x6, y7, x8, x9, x10]
  | [], x7, _ => ⟨x7, rfl⟩
  | w :: ws, x7, hw => by
    obtain ⟨y7, q⟩ := law_lp x0 x1 x2 x3 x4 x5 x6 x8 x9 x10 is h hn e1 e2 ws (some (.str w)) fun x hx => hw x (by simp [hx])
    refine ⟨y7, ?_⟩
    obtain ⟨h1, h2⟩ := hw w (by simp)
    have wl := wr_len h
    have wd := wr_dots12 h (n := 12) (by omega) hn
    subst e1 e2
    have t2 : (2 : Nat) ≤ sizeLine := by decide
    have step : Lp_law_1 [x0, some (iT is), some (.str (wr is)), x3, x4, x5, x6, some (.str w), x8, x9, x10] = .nx [x0, some (iT is), some (.str (wr is)), x3, x4, x5, x6, some (.str w), x8, x9, x10] := by
      rw [Lp_law_1, if_f]
      refine or_ok (a := false) (b := false) (not_ok (b := true) (T_ok ?_)) (not_ok (b := true) (T_ok ?_))
      · rw [call2_ok ((call1_ok (d1 := .str w) rfl).trans (read_eq w h1 h2)) ((call1_ok (d1 := .str w) rfl).trans (due_eq w h1 h2))]
        exact same_read w h1 h2
      · rw [call2_ok (d1 := ansD (wr is)) (d2 := ansD (wr is)) ((call1_ok (d1 := .str (wr is)) rfl).trans (read_eq _ (by omega) wd)) (by rw [ans_wr h]; simp [tgN, tgT, tgNil, tgCons, seqF, appF, stoF, asgF, parF, ownL, liftS, dOp, dUn, dVar, dC, dCall, dCons, dNil, g1, g2, intD, lenD, modD, fdivD, mulD, addD, subD, negD, absD, intsD, setF, retF, ifF, dropF, dT, asB, asI, dAnd, dOr, dNot, dIf, dAndV, dOrV, dNotV, dTup, mkTup, dLst, mkLst, dChain, Res.bind, List.set, List.getElem?_cons_zero, List.getElem?_cons_succ, List.getElem?_nil, runF, startR, List.map_cons, List.map_nil, List.replicate, List.length_cons, List.length_nil, List.cons_append, List.nil_append, List.append_nil, ordD, eqD, neD, eqB, eqFlat, isD, isN, forF, dIt, dIts, itemsL, itemsT, itemsS, items, listD, tupleD, rng1, rng2, dYes, wipeR, dLc, dNoP, dPart, dSl, slD, slL, ixD, inD, ninD, inB, dTru, truB, strD, dStr, asS, joinD, joinZ, splitD, fmtD, dJoin, dJcons, dJnil, augF, guard_true, guardS_true, and_self, and_true, true_and, t2])]
        exact same_read _ (by omega) wd
    rw [show strsD (w :: ws) = D.str w :: strsD ws from rfl, loop_nx (r1 := [x0, some (iT is), some (.str (wr is)), x3, x4, x5, x6, some (.str w), x8, x9, x10]) rfl step, q]
theorem law_true (ns : List Int) (h : ns.length ≤ 63) : F_law [.fz (ns.map D.int)] = .ok (.bl true) := by
  obtain ⟨is, d1, d2, d3⟩ := drawn_eq (ns.getD 0 0) 12 (by omega)
  obtain ⟨js, j1, j2, j3⟩ := drawn_eq (ns.getD 1 0) 6 (by omega)
  obtain ⟨sts, l1, l2, l3⟩ := laying_eq (ns.getD 3 0)
  have hlp : ∀ l ∈ ([3, 90, 12, 3, 90, 12, 30] : List Int), 0 < l ∧ l < 4611686018427387904 := by decide
  have hp : ∀ l ∈ ([3, 90, 12, 3, 90, 12, 30] : List Int), 0 < l := fun l h => (hlp l h).1
  have hrow := row_eq (ns.getD 2 0) [3, 90, 12, 3, 90, 12, 30] hlp (by decide)
  have r0 := row_at (c := ns.getD 2 0) (k := 0) hp rfl
  have r1 := row_at (c := ns.getD 2 0) (k := 1) hp rfl
  have r2 := row_at (c := ns.getD 2 0) (k := 2) hp rfl
  have r3 := row_at (c := ns.getD 2 0) (k := 3) hp rfl
  have r4 := row_at (c := ns.getD 2 0) (k := 4) hp rfl
  have r5 := row_at (c := ns.getD 2 0) (k := 5) hp rfl
  have r6 := row_at (c := ns.getD 2 0) (k := 6) hp rfl
  generalize rowL (ns.getD 2 0) [3, 90, 12, 3, 90, 12, 30] = R at hrow r0 r1 r2 r3 r4 r5 r6
  have wl := wr_len d2
  have wd := wr_dots12 d2 (n := 12) (by omega) d3
  have jl := wr_len j2
  have jd := wr_dots12 j2 (n := 6) (by omega) j3
  obtain ⟨w5, p1, p2, p3⟩ := spoilt_eq (wr js) (R.getD 0 0) (R.getD 1 0) (R.getD 2 0) (by omega) r2.2.1 r2.2.2
  obtain ⟨w6, q1, q2, q3⟩ := spoilt_eq w5 (R.getD 3 0) (R.getD 4 0) (R.getD 5 0) (by omega) r5.2.1 r5.2.2
  obtain ⟨w7, o1, o2, o3⟩ := odd_eq (R.getD 6 0) r6.2.1 r6.2.2
  have t2 : (2 : Nat) ≤ sizeLine := by decide
  have t4 : (4 : Nat) ≤ sizeLine := by decide
  have t7 : (7 : Nat) ≤ sizeLine := by decide
  have lz : (sts.map lineS).length < sizeLine := Nat.lt_of_lt_of_le (by simp; omega) sz5
  refine run_rt ?_
  generalize hS : D.fz (ns.map D.int) = S at *
  show Fb_law [some S, none, none, none, none, none, none, none, none, none, none] = _
  have cell : ∀ (k : Nat) (i : Int) (r : Rho), r[0]? = some (some S) → i = (k : Int) → k < 1000 → dCall F_l_cell (dCons (dVar 0) (dCons (dC (.int i)) dNil)) r = .ok (.int (ns.getD k 0)) := fun k i r hr hi hk => by
    rw [call2_ok (d1 := S) (d2 := .int i) (dVar_ok hr) rfl, hi, ← hS]
    exact cell_eq ns k hk
  have hix : ∀ (k : Nat) (i : Int) (r : Rho), r[3]? = some (some (iL R)) → i = (k : Int) → atI (R.map D.int) (k : Int) = some (.int (R.getD k 0)) → dOp ixD (dVar 3) (dC (.int i)) r = .ok (.int (R.getD k 0)) := fun k i r hr hi ha => by
    rw [op_ok (d1 := iL R) (d2 := .int i) (dVar_ok hr) rfl, hi]
    exact ix_lst ha
  rw [Fb_law, seq_nx (set_ok (d := iT is) ((call2_ok (d2 := .int 12) (cell 0 0 _ rfl rfl (by omega)) rfl).trans d1))]
  refine (seq_nx (set_ok (d := .str (wr is)) ((call1_ok (d1 := iT is) rfl).trans (wn_eq is d2 (by omega))))).trans ?_
  refine (seq_nx (if_f (or_ok (a := false) (b := false) (not_ok (b := true) (T_ok ?_)) (not_ok (b := true) (T_ok ?_))))).trans ?_
  · rw [call2_ok (d2 := .str (wr is)) ((call1_ok (d1 := iT is) rfl).trans (wp_eq is d2 (by omega))) rfl]
    exact same_str _ _
  · rw [call2_ok (d1 := ansD (wr is)) (d2 := ansD (wr is)) ((call1_ok (d1 := .str (wr is)) rfl).trans (read_eq _ (by omega) wd)) (by rw [ans_wr d2]; simp [tgN, tgT, tgNil, tgCons, seqF, appF, stoF, asgF, parF, ownL, liftS, dOp, dUn, dVar, dC, dCall, dCons, dNil, g1, g2, intD, lenD, modD, fdivD, mulD, addD, subD, negD, absD, intsD, setF, retF, ifF, dropF, dT, asB, asI, dAnd, dOr, dNot, dIf, dAndV, dOrV, dNotV, dTup, mkTup, dLst, mkLst, dChain, Res.bind, List.set, List.getElem?_cons_zero, List.getElem?_cons_succ, List.getElem?_nil, runF, startR, List.map_cons, List.map_nil, List.replicate, List.length_cons, List.length_nil, List.cons_append, List.nil_append, List.append_nil, ordD, eqD, neD, eqB, eqFlat, isD, isN, forF, dIt, dIts, itemsL, itemsT, itemsS, items, listD, tupleD, rng1, rng2, dYes, wipeR, dLc, dNoP, dPart, dSl, slD, slL, ixD, inD, ninD, inB, dTru, truB, strD, dStr, asS, joinD, joinZ, splitD, fmtD, dJoin, dJcons, dJnil, augF, guard_true, guardS_true, and_self, and_true, true_and, t2])]
    exact same_read _ (by omega) wd
  refine (seq_nx (set_ok (d := iL R) ((call2_ok (d2 := iL [3, 90, 12, 3, 90, 12, 30]) (cell 2 2 _ rfl rfl (by omega)) (by simp [tgN, tgT, tgNil, tgCons, seqF, appF, stoF, asgF, parF, ownL, liftS, dOp, dUn, dVar, dC, dCall, dCons, dNil, g1, g2, intD, lenD, modD, fdivD, mulD, addD, subD, negD, absD, intsD, setF, retF, ifF, dropF, dT, asB, asI, dAnd, dOr, dNot, dIf, dAndV, dOrV, dNotV, dTup, mkTup, dLst, mkLst, dChain, Res.bind, List.set, List.getElem?_cons_zero, List.getElem?_cons_succ, List.getElem?_nil, runF, startR, List.map_cons, List.map_nil, List.replicate, List.length_cons, List.length_nil, List.cons_append, List.nil_append, List.append_nil, ordD, eqD, neD, eqB, eqFlat, isD, isN, forF, dIt, dIts, itemsL, itemsT, itemsS, items, listD, tupleD, rng1, rng2, dYes, wipeR, dLc, dNoP, dPart, dSl, slD, slL, ixD, inD, ninD, inB, dTru, truB, strD, dStr, asS, joinD, joinZ, splitD, fmtD, dJoin, dJcons, dJnil, augF, guard_true, guardS_true, and_self, and_true, true_and, t7])).trans hrow))).trans ?_
  refine (seq_nx (set_ok (d := .str (wr js)) ((call1_ok ((call2_ok (d2 := .int 6) (cell 1 1 _ rfl rfl (by omega)) rfl).trans j1)).trans (wn_eq js j2 (by omega))))).trans ?_
  refine (seq_nx (set_ok (d := .str w5) ((call_ok (cons_ok (d1 := .str (wr js)) rfl (cons_ok (hix 0 0 _ rfl rfl r0.1) (cons_ok (hix 1 1 _ rfl rfl r1.1) (cons_ok (hix 2 2 _ rfl rfl r2.1) rfl))))).trans p1))).trans ?_
  refine (seq_nx (set_ok (d := .str w6) ((call_ok (cons_ok (d1 := .str w5) rfl (cons_ok (hix 3 3 _ rfl rfl r3.1) (cons_ok (hix 4 4 _ rfl rfl r4.1) (cons_ok (hix 5 5 _ rfl rfl r5.1) rfl))))).trans q1))).trans ?_
  obtain ⟨y7, lp⟩ := law_lp (some S) (some (iT is)) (some (.str (wr is))) (some (iL R)) (some (.str (wr js))) (some (.str w5)) (some (.str w6)) none none none is d2 d3 rfl rfl [wr js, w5, w6, w7] none (by
    intro w hw
    simp at hw
    rcases hw with rfl | rfl | rfl | rfl
    · exact ⟨by omega, by omega⟩
    · exact ⟨by omega, by omega⟩
    · exact ⟨by omega, by omega⟩
    · exact ⟨by omega, by omega⟩)
  refine (seq_nx ((for_ok (ds := strsD [wr js, w5, w6, w7]) ?_).trans lp)).trans ?_
  · have ho := (call1_ok (g := F_l_odd) (hix 6 6 [some S, some (iT is), some (.str (wr is)), some (iL R), some (.str (wr js)), some (.str w5), some (.str w6), none, none, none, none] rfl rfl r6.1)).trans o1
    have hl : dLst (dCons (dVar 4) (dCons (dVar 5) (dCons (dVar 6) (dCons (dCall F_l_odd (dCons (dOp ixD (dVar 3) (dC (.int 6))) dNil)) dNil)))) [some S, some (iT is), some (.str (wr is)), some (iL R), some (.str (wr js)), some (.str w5), some (.str w6), none, none, none, none] = .ok (.lst (strsD [wr js, w5, w6, w7])) := by
      unfold dLst
      rw [cons_ok (d1 := .str (wr js)) rfl (cons_ok (d1 := .str w5) rfl (cons_ok (d1 := .str w6) rfl (cons_ok ho rfl)))]
      simp [Res.bind, mkLst, strsD, t4, guard_true]
    unfold dIt
    refine (congrArg (fun x => Res.bind x itemsL) hl).trans rfl
  refine (seq_nx (set_ok (d := .tup (sts.map sD)) ((call1_ok (cell 3 3 _ rfl rfl (by omega))).trans l1))).trans ?_
  refine (seq_nx (set_ok (d := .lst (strsD (sts.map lineS))) ((call1_ok (d1 := .tup (sts.map sD)) rfl).trans (lines_eq sts l2 l3)))).trans ?_
  refine (seq_nx (set_ok (d := .lst (strsD (sts.map lineS))) ((call1_ok (d1 := .tup (sts.map sD)) rfl).trans (wl_eq sts l2 l3)))).trans ?_
  refine (seq_nx (if_f (not_ok (b := true) (T_ok ((call2_ok (d1 := .lst (strsD (sts.map lineS))) (d2 := .lst (strsD (sts.map lineS))) rfl rfl).trans (same_strs 2 _ (by simp; omega))))))).trans ?_
  refine (seq_nx (app_ok (ds := strsD (sts.map lineS)) (d := .str "0") rfl rfl (by simpa [strsD] using lz))).trans ?_
  exact ret_ok ((call2_ok (d2 := .lst (strsD (sts.map lineS))) ((call1_ok (d1 := .tup (sts.map sD)) rfl).trans (wl_eq sts l2 l3)) rfl).trans (same_strs 2 _ (by simp; omega)))
end Lk

end S_P_math
section S_P_walk
set_option Elab.async false
set_option linter.all false
set_option maxRecDepth 100000
set_option maxHeartbeats 4000000
namespace Lk
open PySem L2 Dx
def topS (i : Nat) : Stmt := PySem.Challenge.pw_laidforall_k74_places_and_layings_writte.main.body.getD i (.Pass ⟨0, 0, 0, 0⟩)
abbrev s_digits_value : Stmt := topS 7
theorem sc_digits_value : FnScope ["text", "char"] ["text"] (defScope s_digits_value) := ⟨rfl, rfl, rfl, by decide +kernel, rfl, by decide +kernel, by decide +kernel⟩
abbrev s_write_place : Stmt := topS 10
theorem sc_write_place : FnScope ["place", "index"] ["place"] (defScope s_write_place) := ⟨rfl, rfl, rfl, by decide +kernel, rfl, by decide +kernel, by decide +kernel⟩
abbrev s_read_place : Stmt := topS 11
theorem sc_read_place : FnScope ["word", "place", "part", "index"] ["word"] (defScope s_read_place) := ⟨rfl, rfl, rfl, by decide +kernel, rfl, by decide +kernel, by decide +kernel⟩
abbrev s_write_laying : Stmt := topS 12
theorem sc_write_laying : FnScope ["laying", "lines", "end", "figures"] ["laying"] (defScope s_write_laying) := ⟨rfl, rfl, rfl, by decide +kernel, rfl, by decide +kernel, by decide +kernel⟩
abbrev s_l_cell : Stmt := topS 14
theorem sc_l_cell : FnScope ["_law_script", "_law_k"] ["_law_script", "_law_k"] (defScope s_l_cell) := ⟨rfl, rfl, rfl, by decide +kernel, rfl, by decide +kernel, by decide +kernel⟩
abbrev s_l_row : Stmt := topS 15
theorem sc_l_row : FnScope ["_law_cell_here", "_law_limits", "_law_row_here", "_law_rest", "_law_limit", "_law_k", "_law_mixed"] ["_law_cell_here", "_law_limits"] (defScope s_l_row) := ⟨rfl, rfl, rfl, by decide +kernel, rfl, by decide +kernel, by decide +kernel⟩
abbrev s_l_same : Stmt := topS 16
theorem sc_l_same : FnScope ["_law_one", "_law_two", "_law_k"] ["_law_one", "_law_two"] (defScope s_l_same) := ⟨rfl, rfl, rfl, by decide +kernel, rfl, by decide +kernel, by decide +kernel⟩
abbrev s_l_index : Stmt := topS 17
theorem sc_l_index : FnScope ["_law_way", "_law_worth"] ["_law_way", "_law_worth"] (defScope s_l_index) := ⟨rfl, rfl, rfl, by decide +kernel, rfl, by decide +kernel, by decide +kernel⟩
abbrev s_l_drawn : Stmt := topS 18
theorem sc_l_drawn : FnScope ["_law_cell_here", "_law_many", "_law_limits", "_law_k", "_law_row_here"] ["_law_cell_here", "_law_many"] (defScope s_l_drawn) := ⟨rfl, rfl, rfl, by decide +kernel, rfl, by decide +kernel, by decide +kernel⟩
abbrev s_l_written : Stmt := topS 19
theorem sc_l_written : FnScope ["_law_place_here", "_law_index_here"] ["_law_place_here"] (defScope s_l_written) := ⟨rfl, rfl, rfl, by decide +kernel, rfl, by decide +kernel, by decide +kernel⟩
abbrev s_l_place : Stmt := topS 20
theorem sc_l_place : FnScope ["_law_word", "_law_place_here", "_law_part", "_law_sign"] ["_law_word"] (defScope s_l_place) := ⟨rfl, rfl, rfl, by decide +kernel, rfl, by decide +kernel, by decide +kernel⟩
abbrev s_l_due : Stmt := topS 21
theorem sc_l_due : FnScope ["_law_word", "_law_place_here"] ["_law_word"] (defScope s_l_due) := ⟨rfl, rfl, rfl, by decide +kernel, rfl, by decide +kernel, by decide +kernel⟩
abbrev s_l_read : Stmt := topS 22
theorem sc_l_read : FnScope ["_law_word", "_law_place_here", "e", "_law_kin"] ["_law_word"] (defScope s_l_read) := ⟨rfl, rfl, rfl, by decide +kernel, rfl, by decide +kernel, by decide +kernel⟩
abbrev s_l_spoilt : Stmt := topS 23
theorem sc_l_spoilt : FnScope ["_law_word", "_law_way", "_law_at", "_law_pick", "_law_sign", "_law_spot"] ["_law_word", "_law_way", "_law_at", "_law_pick"] (defScope s_l_spoilt) := ⟨rfl, rfl, rfl, by decide +kernel, rfl, by decide +kernel, by decide +kernel⟩
abbrev s_l_odd : Stmt := topS 24
theorem sc_l_odd : FnScope ["_law_pick", "_law_text"] ["_law_pick"] (defScope s_l_odd) := ⟨rfl, rfl, rfl, by decide +kernel, rfl, by decide +kernel, by decide +kernel⟩
abbrev s_l_laying : Stmt := topS 25
theorem sc_l_laying : FnScope ["_law_cell_here", "_law_limits", "_law_k", "_law_row_here", "_law_steps", "_law_end", "_law_left", "_law_figures"] ["_law_cell_here"] (defScope s_l_laying) := ⟨rfl, rfl, rfl, by decide +kernel, rfl, by decide +kernel, by decide +kernel⟩
abbrev s_l_lines : Stmt := topS 26
theorem sc_l_lines : FnScope ["_law_laying_here", "_law_lines_here", "_law_step"] ["_law_laying_here"] (defScope s_l_lines) := ⟨rfl, rfl, rfl, by decide +kernel, rfl, by decide +kernel, by decide +kernel⟩
abbrev s_law : Stmt := topS 27
theorem sc_law : FnScope ["_law_script", "_law_place_here", "_law_word", "_law_turn", "_law_small", "_law_once", "_law_twice", "_law_odd_here", "_law_laying_here", "_law_due_here", "_law_told"] ["_law_script"] (defScope s_law) := ⟨rfl, rfl, rfl, by decide +kernel, rfl, by decide +kernel, by decide +kernel⟩
abbrev s_BadValue : Stmt := inClass (topS 3) 0
theorem sc_BadValue : FnScope ["self", "text"] ["self", "text"] (defScope s_BadValue) := ⟨rfl, rfl, rfl, by decide +kernel, rfl, by decide +kernel, by decide +kernel⟩
structure Txt (K : PySem.W.Frag) (mg : Str → Option Value) where
  f_digits_value : Addr
  fd_digits_value : FuncData
  F_digits_value : Fun K "digits_value" "digits_value" s_digits_value f_digits_value fd_digits_value
  g_digits_value : mg "digits_value" = some (.ref f_digits_value)
  b_digits_value : L2.Binds K fd_digits_value ["text"] []
  f_write_place : Addr
  fd_write_place : FuncData
  F_write_place : Fun K "write_place" "write_place" s_write_place f_write_place fd_write_place
  g_write_place : mg "write_place" = some (.ref f_write_place)
  b_write_place : L2.Binds K fd_write_place ["place"] []
  f_read_place : Addr
  fd_read_place : FuncData
  F_read_place : Fun K "read_place" "read_place" s_read_place f_read_place fd_read_place
  g_read_place : mg "read_place" = some (.ref f_read_place)
  b_read_place : L2.Binds K fd_read_place ["word"] []
  f_write_laying : Addr
  fd_write_laying : FuncData
  F_write_laying : Fun K "write_laying" "write_laying" s_write_laying f_write_laying fd_write_laying
  g_write_laying : mg "write_laying" = some (.ref f_write_laying)
  b_write_laying : L2.Binds K fd_write_laying ["laying"] []
  f_l_cell : Addr
  fd_l_cell : FuncData
  F_l_cell : Fun K "_law_cell" "_law_cell" s_l_cell f_l_cell fd_l_cell
  g_l_cell : mg "_law_cell" = some (.ref f_l_cell)
  b_l_cell : L2.Binds K fd_l_cell ["_law_script", "_law_k"] []
  f_l_row : Addr
  fd_l_row : FuncData
  F_l_row : Fun K "_law_row" "_law_row" s_l_row f_l_row fd_l_row
  g_l_row : mg "_law_row" = some (.ref f_l_row)
  b_l_row : L2.Binds K fd_l_row ["_law_cell_here", "_law_limits"] []
  f_l_same : Addr
  fd_l_same : FuncData
  F_l_same : Fun K "_law_same" "_law_same" s_l_same f_l_same fd_l_same
  g_l_same : mg "_law_same" = some (.ref f_l_same)
  b_l_same : L2.Binds K fd_l_same ["_law_one", "_law_two"] []
  f_l_index : Addr
  fd_l_index : FuncData
  F_l_index : Fun K "_law_index" "_law_index" s_l_index f_l_index fd_l_index
  g_l_index : mg "_law_index" = some (.ref f_l_index)
  b_l_index : L2.Binds K fd_l_index ["_law_way", "_law_worth"] []
  f_l_drawn : Addr
  fd_l_drawn : FuncData
  F_l_drawn : Fun K "_law_drawn" "_law_drawn" s_l_drawn f_l_drawn fd_l_drawn
  g_l_drawn : mg "_law_drawn" = some (.ref f_l_drawn)
  b_l_drawn : L2.Binds K fd_l_drawn ["_law_cell_here", "_law_many"] []
  f_l_written : Addr
  fd_l_written : FuncData
  F_l_written : Fun K "_law_written" "_law_written" s_l_written f_l_written fd_l_written
  g_l_written : mg "_law_written" = some (.ref f_l_written)
  b_l_written : L2.Binds K fd_l_written ["_law_place_here"] []
  f_l_place : Addr
  fd_l_place : FuncData
  F_l_place : Fun K "_law_place" "_law_place" s_l_place f_l_place fd_l_place
  g_l_place : mg "_law_place" = some (.ref f_l_place)
  b_l_place : L2.Binds K fd_l_place ["_law_word"] []
  f_l_due : Addr
  fd_l_due : FuncData
  F_l_due : Fun K "_law_due" "_law_due" s_l_due f_l_due fd_l_due
  g_l_due : mg "_law_due" = some (.ref f_l_due)
  b_l_due : L2.Binds K fd_l_due ["_law_word"] []
  f_l_read : Addr
  fd_l_read : FuncData
  F_l_read : Fun K "_law_read" "_law_read" s_l_read f_l_read fd_l_read
  g_l_read : mg "_law_read" = some (.ref f_l_read)
  b_l_read : L2.Binds K fd_l_read ["_law_word"] []
  f_l_spoilt : Addr
  fd_l_spoilt : FuncData
  F_l_spoilt : Fun K "_law_spoilt" "_law_spoilt" s_l_spoilt f_l_spoilt fd_l_spoilt
  g_l_spoilt : mg "_law_spoilt" = some (.ref f_l_spoilt)
  b_l_spoilt : L2.Binds K fd_l_spoilt ["_law_word", "_law_way", "_law_at", "_law_pick"] []
  f_l_odd : Addr
  fd_l_odd : FuncData
  F_l_odd : Fun K "_law_odd" "_law_odd" s_l_odd f_l_odd fd_l_odd
  g_l_odd : mg "_law_odd" = some (.ref f_l_odd)
  b_l_odd : L2.Binds K fd_l_odd ["_law_pick"] []
  f_l_laying : Addr
  fd_l_laying : FuncData
  F_l_laying : Fun K "_law_laying" "_law_laying" s_l_laying f_l_laying fd_l_laying
  g_l_laying : mg "_law_laying" = some (.ref f_l_laying)
  b_l_laying : L2.Binds K fd_l_laying ["_law_cell_here"] []
  f_l_lines : Addr
  fd_l_lines : FuncData
  F_l_lines : Fun K "_law_lines" "_law_lines" s_l_lines f_l_lines fd_l_lines
  g_l_lines : mg "_law_lines" = some (.ref f_l_lines)
  b_l_lines : L2.Binds K fd_l_lines ["_law_laying_here"] []
  f_law : Addr
  fd_law : FuncData
  F_law : Fun K "law" "law" s_law f_law fd_law
  g_law : mg "law" = some (.ref f_law)
  b_law : L2.Binds K fd_law ["_law_script"] []
  n_ValueError : mg "ValueError" = none
  n_bool : mg "bool" = none
  n_int : mg "int" = none
  n_isinstance : mg "isinstance" = none
  n_len : mg "len" = none
  n_list : mg "list" = none
  n_min : mg "min" = none
  n_range : mg "range" = none
  n_str : mg "str" = none
  n_tuple : mg "tuple" = none
  t_DIGITS : Tok
  c_DIGITS : mg "DIGITS" = some (.str "0123456789" t_DIGITS)
  t_MOST_INDEXES : Tok
  c_MOST_INDEXES : mg "MOST_INDEXES" = some (.int 12 t_MOST_INDEXES)
  a_BadCommand : Addr
  g_BadCommand : mg "BadCommand" = some (.ref a_BadCommand)
  a_BadPattern : Addr
  g_BadPattern : mg "BadPattern" = some (.ref a_BadPattern)
  a_BadValue : Addr
  g_BadValue : mg "BadValue" = some (.ref a_BadValue)
  a_LaidError : Addr
  g_LaidError : mg "LaidError" = some (.ref a_LaidError)
  o_BadValue : OexC K a_BadValue
  fI_BadValue : Addr
  fdI_BadValue : FuncData
  i_BadValue : PySem.W.findIn K (.ref a_BadValue) "__init__" = some (some (.ref fI_BadValue))
  ti_BadValue : PySem.W.typeIn K (.ref fI_BadValue) = some (.type "function")
  FI_BadValue : Fun K "__init__" "BadValue.__init__" s_BadValue fI_BadValue fdI_BadValue
  b_BadValue : L2.Binds K fdI_BadValue ["self", "text"] []
  no_BadValue_text : PySem.W.findIn K (.ref a_BadValue) "text" = some none
  xf_BadValue : XfC K a_BadValue
  xc_BadValue : ExcC K a_BadValue
  e_BadValue_BadValue : PySem.W.exmOne K (.ref a_BadValue) (.ref a_BadValue) = some true
  q_BadValue_BadCommand : PySem.W.kitOne K (.ref a_BadValue) (.ref a_BadCommand) = some false
  q_BadValue_BadPattern : PySem.W.kitOne K (.ref a_BadValue) (.ref a_BadPattern) = some false
  q_BadValue_LaidError : PySem.W.kitOne K (.ref a_BadValue) (.ref a_LaidError) = some true
  q_BadValue_ValueError : PySem.W.kitOne K (.ref a_BadValue) (.type "ValueError") = some true
def Txt.cm {K : PySem.W.Frag} {mg : Str → Option Value} (T : Txt K mg) : CM := fun n => if n = "BadValue" then some T.a_BadValue else none
section
variable {P : Program} {w : World} {K : PySem.W.Frag} {mg : Str → Option Value} {base : Heap}
theorem Txt.cm_BadValue (T : Txt K mg) : T.cm "BadValue" = some T.a_BadValue := by unfold Txt.cm; simp
theorem Txt.exm_BadValue (T : Txt K mg) : ∀ n C b, T.cm n = some C → isM_BadValue n = some b → PySem.W.exmOne K (.ref C) (.ref T.a_BadValue) = some b := by
  intro n C b h1 h2
  unfold Txt.cm at h1
  unfold isM_BadValue at h2
  by_cases e0 : n = "BadValue"
  · subst e0; simp at h1 h2; subst h1 h2; exact T.e_BadValue_BadValue
  simp [e0] at h1
theorem Txt.xf_of_BadValue (T : Txt K mg) {C : Addr} (h : ∃ n, T.cm n = some C ∧ isM_BadValue n = some true) : XfC K C := by
  obtain ⟨n, h1, h2⟩ := h
  unfold Txt.cm at h1
  unfold isM_BadValue at h2
  by_cases e0 : n = "BadValue"
  · subst e0; simp at h1; subst h1; exact T.xf_BadValue
  simp [e0] at h1
theorem Txt.xc_of_BadValue (T : Txt K mg) {C : Addr} (h : ∃ n, T.cm n = some C ∧ isM_BadValue n = some true) : ExcC K C := by
  obtain ⟨n, h1, h2⟩ := h
  unfold Txt.cm at h1
  unfold isM_BadValue at h2
  by_cases e0 : n = "BadValue"
  · subst e0; simp at h1; subst h1; exact T.xc_BadValue
  simp [e0] at h1
theorem Txt.no_of_BadValue_text (T : Txt K mg) {C : Addr} (h : ∃ n, T.cm n = some C ∧ isM_BadValue n = some true) : PySem.W.findIn K (.ref C) "text" = some none := by
  obtain ⟨n, h1, h2⟩ := h
  unfold Txt.cm at h1
  unfold isM_BadValue at h2
  by_cases e0 : n = "BadValue"
  · subst e0; simp at h1; subst h1; exact T.no_BadValue_text
  simp [e0] at h1
theorem Txt.isi_BadCommand (T : Txt K mg) : ∀ n C b, T.cm n = some C → isM_BadCommand n = some b → PySem.W.kitOne K (.ref C) (.ref T.a_BadCommand) = some b := by
  intro n C b h1 h2
  unfold Txt.cm at h1
  unfold isM_BadCommand at h2
  by_cases e0 : n = "BadValue"
  · subst e0; simp at h1 h2; subst h1 h2; exact T.q_BadValue_BadCommand
  simp [e0] at h1
theorem Txt.isi_BadPattern (T : Txt K mg) : ∀ n C b, T.cm n = some C → isM_BadPattern n = some b → PySem.W.kitOne K (.ref C) (.ref T.a_BadPattern) = some b := by
  intro n C b h1 h2
  unfold Txt.cm at h1
  unfold isM_BadPattern at h2
  by_cases e0 : n = "BadValue"
  · subst e0; simp at h1 h2; subst h1 h2; exact T.q_BadValue_BadPattern
  simp [e0] at h1
theorem Txt.isi_LaidError (T : Txt K mg) : ∀ n C b, T.cm n = some C → isM_LaidError n = some b → PySem.W.kitOne K (.ref C) (.ref T.a_LaidError) = some b := by
  intro n C b h1 h2
  unfold Txt.cm at h1
  unfold isM_LaidError at h2
  by_cases e0 : n = "BadValue"
  · subst e0; simp at h1 h2; subst h1 h2; exact T.q_BadValue_LaidError
  simp [e0] at h1
theorem Txt.isi_ValueError (T : Txt K mg) : ∀ n C b, T.cm n = some C → isM_ValueError n = some b → PySem.W.kitOne K (.ref C) (.type "ValueError") = some b := by
  intro n C b h1 h2
  unfold Txt.cm at h1
  unfold isM_ValueError at h2
  by_cases e0 : n = "BadValue"
  · subst e0; simp at h1 h2; subst h1 h2; exact T.q_BadValue_ValueError
  simp [e0] at h1
theorem ox_BadValue (T : Txt K mg) : FnOk P w K mg base (L2.CX P w) 1 T.fI_BadValue T.fdI_BadValue ["self", "text"] (spX1 K T.a_BadValue "text") := xinit1 T.FI_BadValue sc_BadValue rfl rfl fun cdv A outer s H E => pss_one (ps_ost (pv 0) (pv 1))
theorem ok_digits_value (T : Txt K mg) : FnOk P w K mg base (L2.CX P w) 1 T.f_digits_value T.fd_digits_value ["text"] (spD K T.cm [false] false F_digits_value)   := dok (G' := []) (k := 0) T.F_digits_value sc_digits_value rfl (by decide) fun cdv A outer s H E hr =>
  (ds_cons (ds_if gok0 (PW.pt (dw_or (dt_cmp (or_eq hr.units) os_eq (db_var 0 (pv 0) (.inl rfl)) (db_of de_str) (nomark _)) (dw_or1 (dt_cmp or_gt os_ord (db_of (de_bltn call_len cs_len (by rfl) T.n_len (by decide +kernel) (dm_bor (db_var 0 (pv 0) (.inl rfl)) dm_nil))) (db_of de_int) (nomark _)))))
  (ds_one (ds_ret gok0 rfl de_non))
  ds_nil)
  (ds_cons (ds_for gok0 (passes_of rfl) rfl (di_str (de_var 0 (pv 0) rfl)) (dg_name 1 sc_digits_value.nd rfl (by first | exact Or.inl rfl | exact Or.inr rfl))
  (ds_one (ds_if gok0 (dt_cmp (or_nin (hu65 hr)) os_nin (db_var 1 (pv 1) (.inl rfl)) (db_of (de_c (v := .str "0123456789") (pe_glob (by rfl) T.c_DIGITS ⟨_, rfl⟩) fun _ => .str _)) (by rfl))
  (ds_one (ds_ret gok0 rfl de_non))
  ds_nil)))
  (ds_cons (ds_if gok0 (PW.pt (dw_and (dt_cmp or_gt os_ord (db_of (de_bltn call_len cs_len (by rfl) T.n_len (by decide +kernel) (dm_bor (db_var 0 (pv 0) (.inl rfl)) dm_nil))) (db_of de_int) (nomark _)) (dw_and1 (dt_cmp (or_eq hr.units) os_eq (db_of (de_ix (db_var 0 (pv 0) (.inl rfl)) (db_of de_int) (fun _ _ => rfl))) (db_of de_str) (nomark _)))))
  (ds_one (ds_ret gok0 rfl de_non))
  ds_nil)
  (ds_one (ds_ret gok0 rfl (de_type cr_int cs_int (by rfl) T.n_int (by decide +kernel) (dm_bor (db_var 0 (pv 0) (.inl rfl)) dm_nil)))))))

theorem ok_write_place (T : Txt K mg) : FnOk P w K mg base (L2.CX P w) 1 T.f_write_place T.fd_write_place ["place"] (spD K T.cm [false] false F_write_place)   := dok (G' := []) (k := 0) T.F_write_place sc_write_place rfl (by decide) fun cdv A outer s H E hr =>
  (ds_cons (ds_if gok0 (dt_cmp (or_eq hr.units) os_eq (db_of (de_bltn call_len cs_len (by rfl) T.n_len (by decide +kernel) (dm_bor (db_var 0 (pv 0) (.inl rfl)) dm_nil))) (db_of de_int) (nomark _))
  (ds_one (ds_ret gok0 rfl de_str))
  ds_nil)
  (ds_one (ds_ret gok0 rfl (de_m1 PySem.F.slot_str_join PySem.F.type_str_join mt_join ms_join (db_of de_str) (db_own (de_lc (own := [("index", 1)]) rfl sc_write_place.nd (di_tup (de_var 0 (pv 0) rfl)) (blkOk_by (own := [("index", 1)]) (N := ["place", "index"]) (sc := defScope s_write_place) (by decide +kernel)) (fun _ _ _ _ _ => (dg_name 1 sc_write_place.nd rfl (by first | exact Or.inl rfl | exact Or.inr rfl))) (fun _ _ _ _ _ => dt_nil) (fun _ _ _ _ _ => (de_type call_str_int cs_str (by rfl) T.n_str (by decide +kernel) (dm_bor (db_var 1 (pv 1) (.inl rfl)) dm_nil)))))))))

theorem ok_read_place (T : Txt K mg) : FnOk P w K mg base (L2.CX P w) 3 T.f_read_place T.fd_read_place ["word"] (spD K T.cm [false] false F_read_place)   := dok (G' := []) (k := 2) T.F_read_place sc_read_place rfl (by decide) fun cdv A outer s H E hr =>
  (ds_cons (ds_if gok0 (dt_cmp (or_eq hr.units) os_eq (db_var 0 (pv 0) (.inl rfl)) (db_of de_str) (nomark _))
  (ds_one (ds_ret gok0 rfl (de_tup da_nil)))
  ds_nil)
  (ds_cons (ds_setO 1 gok0 (by decide) sc_read_place.nd rfl (by first | exact Or.inl rfl | exact Or.inr rfl) (de_lst da_nil))
  (ds_cons (ds_for gok0 (passes_of rfl) rfl (di_list (de_pub (de_m1 PySem.F.slot_str_split PySem.F.type_str_split mt_split ms_split (db_var 0 (pv 0) (.inl rfl)) (db_of de_str)))) (dg_name 2 sc_read_place.nd rfl (by first | exact Or.inl rfl | exact Or.inr rfl))
  (ds_cons (ds_set 3 gok0 sc_read_place.nd rfl (by first | exact Or.inl rfl | exact Or.inr rfl) (de_callV (ok_digits_value T) (takes_of rfl rfl rfl rfl) (hr.mono (by decide)) (by rfl) T.g_digits_value T.F_digits_value.kp T.b_digits_value (dm_val (de_var 2 (pv 2) rfl) dm_nil)))
  (ds_cons (ds_if gok0 (dt_cmp op_isN os_is (db_var 3 (pv 3) (.inl rfl)) (db_of de_non) (nomark _))
  (ds_one (ds_raise1 gok0 T.cm_BadValue rfl (takes_of rfl rfl rfl rfl) T.o_BadValue T.i_BadValue T.ti_BadValue T.no_BadValue_text (ox_BadValue T) (hr.mono (by decide)) T.b_BadValue (by rfl) T.g_BadValue (da_cons (de_var 0 (pv 0) rfl) da_nil)))
  ds_nil)
  (ds_one (ds_app 1 gok0 rfl (pv 1) (de_var 3 (pv 3) rfl))))))
  (ds_cons (ds_if gok0 (dt_cmp or_gt os_ord (db_of (de_bltn call_len cs_len (by rfl) T.n_len (by decide +kernel) (dm_bor (db_var 1 (pv 1) (.inr (.inl rfl))) dm_nil))) (db_of (de_c (v := .int 12) (pe_glob (by rfl) T.c_MOST_INDEXES ⟨_, rfl⟩) fun _ => .int _)) (nomark _))
  (ds_one (ds_raise1 gok0 T.cm_BadValue rfl (takes_of rfl rfl rfl rfl) T.o_BadValue T.i_BadValue T.ti_BadValue T.no_BadValue_text (ox_BadValue T) (hr.mono (by decide)) T.b_BadValue (by rfl) T.g_BadValue (da_cons (de_var 0 (pv 0) rfl) da_nil)))
  ds_nil)
  (ds_one (ds_ret gok0 rfl (de_type call_tuple_of cs_tuple (by rfl) T.n_tuple (by decide +kernel) (dm_bor (db_var 1 (pv 1) (.inr (.inl rfl))) dm_nil))))))))

theorem ok_write_laying (T : Txt K mg) : FnOk P w K mg base (L2.CX P w) 1 T.f_write_laying T.fd_write_laying ["laying"] (spD K T.cm [false] true F_write_laying)   := dok (G' := []) (k := 0) T.F_write_laying sc_write_laying rfl (by decide) fun cdv A outer s H E hr =>
  (ds_cons (ds_setO 1 gok0 (by decide) sc_write_laying.nd rfl (by first | exact Or.inl rfl | exact Or.inr rfl) (de_lst da_nil))
  (ds_cons (ds_for gok0 (passes_of rfl) rfl (di_tup (de_var 0 (pv 0) rfl)) (dg_tup rfl (dg_cons (dg_name 2 sc_write_laying.nd rfl (by first | exact Or.inl rfl | exact Or.inr rfl)) (dg_cons (dg_name 3 sc_write_laying.nd rfl (by first | exact Or.inl rfl | exact Or.inr rfl)) dg_nil)))
  (ds_one (ds_if gok0 (dt_cmp op_isN os_is (db_var 3 (pv 3) (.inl rfl)) (db_of de_non) (nomark _))
  (ds_one (ds_app 1 gok0 rfl (pv 1) (de_type call_str_int cs_str (by rfl) T.n_str (by decide +kernel) (dm_bor (db_var 2 (pv 2) (.inl rfl)) dm_nil))))
  (ds_one (ds_app 1 gok0 rfl (pv 1) (de_join (dj_cons (de_fmt (de_var 2 (pv 2) rfl)) (dj_cons de_str (dj_cons (de_fmt (de_var 3 (pv 3) rfl)) dj_nil)))))))))
  (ds_one (ds_retI 1 rfl rfl (pv 1)))))

theorem ok_l_cell (T : Txt K mg) : FnOk P w K mg base (L2.CX P w) 1 T.f_l_cell T.fd_l_cell ["_law_script", "_law_k"] (spD K T.cm [false, false] false F_l_cell)   := dok (G' := []) (k := 0) T.F_l_cell sc_l_cell rfl (by decide) fun cdv A outer s H E hr =>
  (ds_cons (ds_if gok0 (dt_cmp or_lt os_ord (db_var 1 (pv 1) (.inl rfl)) (db_of (de_bltn call_len cs_len (by rfl) T.n_len (by decide +kernel) (dm_bor (db_var 0 (pv 0) (.inl rfl)) dm_nil))) (nomark _))
  (ds_one (ds_ret gok0 rfl (de_type cr_int cs_int (by rfl) T.n_int (by decide +kernel) (dm_bor (db_of (de_ix (db_var 0 (pv 0) (.inl rfl)) (db_var 1 (pv 1) (.inl rfl)) (fun _ _ => rfl))) dm_nil))))
  ds_nil)
  (ds_one (ds_ret gok0 rfl de_int)))

theorem ok_l_row (T : Txt K mg) : FnOk P w K mg base (L2.CX P w) 1 T.f_l_row T.fd_l_row ["_law_cell_here", "_law_limits"] (spD K T.cm [false, false] false F_l_row)   := dok (G' := []) (k := 0) T.F_l_row sc_l_row rfl (by decide) fun cdv A outer s H E hr =>
  (ds_cons (ds_setO 2 gok0 (by decide) sc_l_row.nd rfl (by first | exact Or.inl rfl | exact Or.inr rfl) (de_lst da_nil))
  (ds_cons (ds_if gok0 (dt_cmp or_ge os_ord (db_var 0 (pv 0) (.inl rfl)) (db_of de_int) (nomark _))
  (ds_cons (ds_set 3 gok0 sc_l_row.nd rfl (by first | exact Or.inl rfl | exact Or.inr rfl) (de_op op_sub os_sub (db_var 0 (pv 0) (.inl rfl)) (db_of de_int)))
  (ds_cons (ds_for gok0 (passes_of rfl) rfl (di_list (de_var 1 (pv 1) rfl)) (dg_name 4 sc_l_row.nd rfl (by first | exact Or.inl rfl | exact Or.inr rfl))
  (ds_cons (ds_app 2 gok0 rfl (pv 2) (de_op op_mod os_mod (db_of (de_type cr_int cs_int (by rfl) T.n_int (by decide +kernel) (dm_bor (db_var 3 (pv 3) (.inl rfl)) dm_nil))) (db_var 4 (pv 4) (.inl rfl))))
  (ds_one (ds_set 3 gok0 sc_l_row.nd rfl (by first | exact Or.inl rfl | exact Or.inr rfl) (de_op or_fdiv os_fdiv (db_var 3 (pv 3) (.inl rfl)) (db_var 4 (pv 4) (.inl rfl)))))))
  (ds_pub 2 (ds_one (ds_ret gok0 rfl (de_var 2 (pv 2) rfl))) (.inl rfl))))
  ds_nil)
  (ds_cons (ds_for gok0 (passes_of rfl) rfl (di_rng1 T.n_range (by rfl) (da_cons (de_bltn call_len cs_len (by rfl) T.n_len (by decide +kernel) (dm_bor (db_var 1 (pv 1) (.inl rfl)) dm_nil)) da_nil)) (dg_name 5 sc_l_row.nd rfl (by first | exact Or.inl rfl | exact Or.inr rfl))
  (ds_cons (ds_set 6 gok0 sc_l_row.nd rfl (by first | exact Or.inl rfl | exact Or.inr rfl) (de_op op_mod os_mod (db_of (de_type cr_int cs_int (by rfl) T.n_int (by decide +kernel) (dm_bor (db_of (de_op or_add os_add (db_of (de_op or_add os_add (db_of (de_op or_mul os_mul (db_var 0 (pv 0) (.inl rfl)) (db_of de_int))) (db_of (de_op or_mul os_mul (db_var 5 (pv 5) (.inl rfl)) (db_of de_int))))) (db_of de_int))) dm_nil))) (db_of de_int)))
  (ds_cons (ds_set 6 gok0 sc_l_row.nd rfl (by first | exact Or.inl rfl | exact Or.inr rfl) (de_op op_mod os_mod (db_of (de_type cr_int cs_int (by rfl) T.n_int (by decide +kernel) (dm_bor (db_of (de_op or_add os_add (db_of (de_op or_add os_add (db_of (de_op or_mul os_mul (db_var 6 (pv 6) (.inl rfl)) (db_of (de_op or_add os_add (db_of de_int) (db_of (de_op or_mul os_mul (db_of de_int) (db_var 5 (pv 5) (.inl rfl)))))))) (db_of (de_op or_mul os_mul (db_of (de_op or_mul os_mul (db_var 5 (pv 5) (.inl rfl)) (db_var 5 (pv 5) (.inl rfl)))) (db_of de_int))))) (db_of de_int))) dm_nil))) (db_of de_int)))
  (ds_one (ds_app 2 gok0 rfl (pv 2) (de_op op_mod os_mod (db_of (de_type cr_int cs_int (by rfl) T.n_int (by decide +kernel) (dm_bor (db_of (de_op or_fdiv os_fdiv (db_var 6 (pv 6) (.inl rfl)) (db_of de_int))) dm_nil))) (db_of (de_ix (db_var 1 (pv 1) (.inl rfl)) (db_var 5 (pv 5) (.inl rfl)) (fun _ _ => rfl)))))))))
  (ds_pub 2 (ds_one (ds_ret gok0 rfl (de_var 2 (pv 2) rfl))) (.inl rfl)))))

theorem ok_l_same (T : Txt K mg) : ∀ {n : Nat}, FnOk P w K mg base (L2.CX P w) (1 + n) T.f_l_same T.fd_l_same ["_law_one", "_law_two"] (spD K T.cm [true, true] false (F_l_same n))
  | 0 => fnok_bad
  | n + 1 => dok (G' := []) (k := 1 + n) T.F_l_same sc_l_same rfl (by decide) fun cdv A outer s H E hr => by
    have ih := fun T => ok_l_same T (n := n)
    exact (ds_cons (ds_if gok0 (dt_cmp op_isN os_is (db_var 1 (pv 1) (.inr (.inr rfl))) (db_of de_non) (nomark _))
  (ds_one (ds_ret gok0 rfl (de_cmp op_isN os_is (db_var 0 (pv 0) (.inr (.inr rfl))) (db_of de_non) (nomark _))))
  ds_nil)
  (ds_cons (ds_if gok0 (dt_val (de_isi "bool" T.n_isinstance (by rfl) (by rfl) T.n_bool (by decide +kernel) (db_var 1 (pv 1) (.inr (.inr rfl)))))
  (ds_one (ds_ret gok0 rfl (de_and (de_isi "bool" T.n_isinstance (by rfl) (by rfl) T.n_bool (by decide +kernel) (db_var 0 (pv 0) (.inr (.inr rfl)))) (de_one (de_cmp (or_eq hr.units) os_eq (db_var 0 (pv 0) (.inr (.inr rfl))) (db_var 1 (pv 1) (.inr (.inr rfl))) (nomark _))))))
  ds_nil)
  (ds_cons (ds_if gok0 (dt_val (de_isi "int" T.n_isinstance (by rfl) (by rfl) T.n_int (by decide +kernel) (db_var 1 (pv 1) (.inr (.inr rfl)))))
  (ds_one (ds_ret gok0 rfl (de_and (de_isi "int" T.n_isinstance (by rfl) (by rfl) T.n_int (by decide +kernel) (db_var 0 (pv 0) (.inr (.inr rfl)))) (de_and (de_not (de_isi "bool" T.n_isinstance (by rfl) (by rfl) T.n_bool (by decide +kernel) (db_var 0 (pv 0) (.inr (.inr rfl))))) (de_one (de_cmp (or_eq hr.units) os_eq (db_var 0 (pv 0) (.inr (.inr rfl))) (db_var 1 (pv 1) (.inr (.inr rfl))) (nomark _)))))))
  ds_nil)
  (ds_cons (ds_if gok0 (dt_val (de_isi "str" T.n_isinstance (by rfl) (by rfl) T.n_str (by decide +kernel) (db_var 1 (pv 1) (.inr (.inr rfl)))))
  (ds_one (ds_ret gok0 rfl (de_and (de_isi "str" T.n_isinstance (by rfl) (by rfl) T.n_str (by decide +kernel) (db_var 0 (pv 0) (.inr (.inr rfl)))) (de_one (de_cmp (or_eq hr.units) os_eq (db_var 0 (pv 0) (.inr (.inr rfl))) (db_var 1 (pv 1) (.inr (.inr rfl))) (nomark _))))))
  ds_nil)
  (ds_cons (ds_if gok0 (PW.pt (dw_and (dt_val (de_isi "tuple" T.n_isinstance (by rfl) (by rfl) T.n_tuple (by decide +kernel) (db_var 1 (pv 1) (.inr (.inr rfl))))) (dw_and1 (dt_not (dt_val (de_isi "tuple" T.n_isinstance (by rfl) (by rfl) T.n_tuple (by decide +kernel) (db_var 0 (pv 0) (.inr (.inr rfl)))))))))
  (ds_one (ds_ret gok0 rfl de_bl))
  ds_nil)
  (ds_cons (ds_if gok0 (PW.pt (dw_and (dt_val (de_isi "list" T.n_isinstance (by rfl) (by rfl) T.n_list (by decide +kernel) (db_var 1 (pv 1) (.inr (.inr rfl))))) (dw_and1 (dt_not (dt_val (de_isi "list" T.n_isinstance (by rfl) (by rfl) T.n_list (by decide +kernel) (db_var 0 (pv 0) (.inr (.inr rfl)))))))))
  (ds_one (ds_ret gok0 rfl de_bl))
  ds_nil)
  (ds_cons (ds_if gok0 (PW.pt (dw_or (dt_val (de_isi "tuple" T.n_isinstance (by rfl) (by rfl) T.n_tuple (by decide +kernel) (db_var 1 (pv 1) (.inr (.inr rfl))))) (dw_or1 (dt_val (de_isi "list" T.n_isinstance (by rfl) (by rfl) T.n_list (by decide +kernel) (db_var 1 (pv 1) (.inr (.inr rfl))))))))
  (ds_cons (ds_if gok0 (dt_cmp (or_ne hr.units) os_ne (db_of (de_bltn call_len cs_len (by rfl) T.n_len (by decide +kernel) (dm_bor (db_var 0 (pv 0) (.inr (.inr rfl))) dm_nil))) (db_of (de_bltn call_len cs_len (by rfl) T.n_len (by decide +kernel) (dm_bor (db_var 1 (pv 1) (.inr (.inr rfl))) dm_nil))) (nomark _))
  (ds_one (ds_ret gok0 rfl de_bl))
  ds_nil)
  (ds_cons (ds_for gok0 (passes_of rfl) rfl (di_rng1 T.n_range (by rfl) (da_cons (de_bltn call_len cs_len (by rfl) T.n_len (by decide +kernel) (dm_bor (db_var 1 (pv 1) (.inr (.inr rfl))) dm_nil)) da_nil)) (dg_name 2 sc_l_same.nd rfl (by first | exact Or.inl rfl | exact Or.inr rfl))
  (ds_one (ds_if gok0 (dt_not (dt_val (de_callV (ih T) (takes_of rfl rfl rfl rfl) hr (by rfl) T.g_l_same T.F_l_same.kp T.b_l_same (dm_bor (db_of (de_ix (db_var 0 (pv 0) (.inr (.inr rfl))) (db_var 2 (pv 2) (.inl rfl)) (fun _ _ => rfl))) (dm_bor (db_of (de_ix (db_var 1 (pv 1) (.inr (.inr rfl))) (db_var 2 (pv 2) (.inl rfl)) (fun _ _ => rfl))) dm_nil)))))
  (ds_one (ds_ret gok0 rfl de_bl))
  ds_nil)))
  (ds_one (ds_ret gok0 rfl de_bl))))
  ds_nil)
  (ds_one (ds_ret gok0 rfl de_bl)))))))))

theorem ok_l_index (T : Txt K mg) : FnOk P w K mg base (L2.CX P w) 1 T.f_l_index T.fd_l_index ["_law_way", "_law_worth"] (spD K T.cm [false, false] false F_l_index)   := dok (G' := []) (k := 0) T.F_l_index sc_l_index rfl (by decide) fun cdv A outer s H E hr =>
  (ds_cons (ds_if gok0 (dt_cmp (or_eq hr.units) os_eq (db_var 0 (pv 0) (.inl rfl)) (db_of de_int) (nomark _))
  (ds_one (ds_ret gok0 rfl de_int))
  ds_nil)
  (ds_cons (ds_if gok0 (dt_cmp (or_eq hr.units) os_eq (db_var 0 (pv 0) (.inl rfl)) (db_of de_int) (nomark _))
  (ds_one (ds_ret gok0 rfl (de_op op_mod os_mod (db_of (de_type cr_int cs_int (by rfl) T.n_int (by decide +kernel) (dm_bor (db_var 1 (pv 1) (.inl rfl)) dm_nil))) (db_of de_int))))
  ds_nil)
  (ds_cons (ds_if gok0 (dt_cmp (or_eq hr.units) os_eq (db_var 0 (pv 0) (.inl rfl)) (db_of de_int) (nomark _))
  (ds_one (ds_ret gok0 rfl de_int))
  ds_nil)
  (ds_cons (ds_if gok0 (dt_cmp (or_eq hr.units) os_eq (db_var 0 (pv 0) (.inl rfl)) (db_of de_int) (nomark _))
  (ds_one (ds_ret gok0 rfl (de_op op_sub os_sub (db_of de_int) (db_of (de_op op_mod os_mod (db_of (de_type cr_int cs_int (by rfl) T.n_int (by decide +kernel) (dm_bor (db_var 1 (pv 1) (.inl rfl)) dm_nil))) (db_of de_int))))))
  ds_nil)
  (ds_cons (ds_if gok0 (dt_cmp (or_eq hr.units) os_eq (db_var 0 (pv 0) (.inl rfl)) (db_of de_int) (nomark _))
  (ds_one (ds_ret gok0 rfl (de_op op_mod os_mod (db_of (de_type cr_int cs_int (by rfl) T.n_int (by decide +kernel) (dm_bor (db_var 1 (pv 1) (.inl rfl)) dm_nil))) (db_of de_int))))
  ds_nil)
  (ds_one (ds_ret gok0 rfl (de_var 1 (pv 1) rfl))))))))

theorem ok_l_drawn (T : Txt K mg) : FnOk P w K mg base (L2.CX P w) 2 T.f_l_drawn T.fd_l_drawn ["_law_cell_here", "_law_many"] (spD K T.cm [false, false] false F_l_drawn)   := dok (G' := []) (k := 1) T.F_l_drawn sc_l_drawn rfl (by decide) fun cdv A outer s H E hr =>
  (ds_cons (ds_set 2 gok0 sc_l_drawn.nd rfl (by first | exact Or.inl rfl | exact Or.inr rfl) (de_pub (de_lst (da_cons (de_op or_add os_add (db_var 1 (pv 1) (.inl rfl)) (db_of de_int)) da_nil))))
  (ds_cons (ds_for gok0 (passes_of rfl) rfl (di_rng1 T.n_range (by rfl) (da_cons (de_var 1 (pv 1) rfl) da_nil)) (dg_name 3 sc_l_drawn.nd rfl (by first | exact Or.inl rfl | exact Or.inr rfl))
  (ds_one (ds_set 2 gok0 sc_l_drawn.nd rfl (by first | exact Or.inl rfl | exact Or.inr rfl) (de_op or_add os_add (db_var 2 (pv 2) (.inl rfl)) (db_own (de_lst (da_cons de_int (da_cons de_int da_nil))))))))
  (ds_cons (ds_set 4 gok0 sc_l_drawn.nd rfl (by first | exact Or.inl rfl | exact Or.inr rfl) (de_callV (ok_l_row T) (takes_of rfl rfl rfl rfl) (hr.mono (by decide)) (by rfl) T.g_l_row T.F_l_row.kp T.b_l_row (dm_val (de_var 0 (pv 0) rfl) (dm_val (de_var 2 (pv 2) rfl) dm_nil))))
  (ds_one (ds_ret gok0 rfl (de_type call_tuple_of cs_tuple (by rfl) T.n_tuple (by decide +kernel) (dm_bor (db_own (de_lc (own := [("_law_k", 3)]) rfl sc_l_drawn.nd (di_rng1 T.n_range (by rfl) (da_cons (de_ix (db_var 4 (pv 4) (.inl rfl)) (db_of de_int) (fun _ _ => rfl)) da_nil)) (blkOk_by (own := [("_law_k", 3)]) (N := ["_law_cell_here", "_law_many", "_law_limits", "_law_k", "_law_row_here"]) (sc := defScope s_l_drawn) (by decide +kernel)) (fun _ _ _ _ _ => (dg_name 3 sc_l_drawn.nd rfl (by first | exact Or.inl rfl | exact Or.inr rfl))) (fun _ _ _ _ _ => dt_nil) (fun _ _ _ _ _ => (de_callV (ok_l_index T) takes0 (hr.mono (by decide)) (by rfl) T.g_l_index T.F_l_index.kp T.b_l_index (dm_val (de_ix (db_var 4 (pv 4) (.inl rfl)) (db_of (de_op or_add os_add (db_of (de_op or_mul os_mul (db_of de_int) (db_var 3 (pv 3) (.inl rfl)))) (db_of de_int))) (fun _ _ => rfl)) (dm_val (de_ix (db_var 4 (pv 4) (.inl rfl)) (db_of (de_op or_add os_add (db_of (de_op or_mul os_mul (db_of de_int) (db_var 3 (pv 3) (.inl rfl)))) (db_of de_int))) (fun _ _ => rfl)) dm_nil)))))) dm_nil)))))))

theorem ok_l_written (T : Txt K mg) : FnOk P w K mg base (L2.CX P w) 1 T.f_l_written T.fd_l_written ["_law_place_here"] (spD K T.cm [false] false F_l_written)   := dok (G' := []) (k := 0) T.F_l_written sc_l_written rfl (by decide) fun cdv A outer s H E hr =>
  (ds_cons (ds_if gok0 (dt_cmp (or_eq hr.units) os_eq (db_var 0 (pv 0) (.inl rfl)) (db_of (de_tup da_nil)) (nomark _))
  (ds_one (ds_ret gok0 rfl de_str))
  ds_nil)
  (ds_one (ds_ret gok0 rfl (de_m1 PySem.F.slot_str_join PySem.F.type_str_join mt_join ms_join (db_of de_str) (db_own (de_lc (own := [("_law_index_here", 1)]) rfl sc_l_written.nd (di_tup (de_var 0 (pv 0) rfl)) (blkOk_by (own := [("_law_index_here", 1)]) (N := ["_law_place_here", "_law_index_here"]) (sc := defScope s_l_written) (by decide +kernel)) (fun _ _ _ _ _ => (dg_name 1 sc_l_written.nd rfl (by first | exact Or.inl rfl | exact Or.inr rfl))) (fun _ _ _ _ _ => dt_nil) (fun _ _ _ _ _ => (de_type call_str_int cs_str (by rfl) T.n_str (by decide +kernel) (dm_bor (db_var 1 (pv 1) (.inl rfl)) dm_nil)))))))))

theorem ok_l_place (T : Txt K mg) : FnOk P w K mg base (L2.CX P w) 1 T.f_l_place T.fd_l_place ["_law_word"] (spD K T.cm [false] false F_l_place)   := dok (G' := []) (k := 0) T.F_l_place sc_l_place rfl (by decide) fun cdv A outer s H E hr =>
  (ds_cons (ds_if gok0 (dt_cmp (or_eq hr.units) os_eq (db_var 0 (pv 0) (.inl rfl)) (db_of de_str) (nomark _))
  (ds_one (ds_ret gok0 rfl (de_tup da_nil)))
  ds_nil)
  (ds_cons (ds_setO 1 gok0 (by decide) sc_l_place.nd rfl (by first | exact Or.inl rfl | exact Or.inr rfl) (de_lst da_nil))
  (ds_cons (ds_for gok0 (passes_of rfl) rfl (di_list (de_pub (de_m1 PySem.F.slot_str_split PySem.F.type_str_split mt_split ms_split (db_var 0 (pv 0) (.inl rfl)) (db_of de_str)))) (dg_name 2 sc_l_place.nd rfl (by first | exact Or.inl rfl | exact Or.inr rfl))
  (ds_cons (ds_if gok0 (PW.pt (dw_or (dt_cmp (or_eq hr.units) os_eq (db_var 2 (pv 2) (.inl rfl)) (db_of de_str) (nomark _)) (dw_or (dt_cmp or_gt os_ord (db_of (de_bltn call_len cs_len (by rfl) T.n_len (by decide +kernel) (dm_bor (db_var 2 (pv 2) (.inl rfl)) dm_nil))) (db_of de_int) (nomark _)) (dw_or1 (PW.pt (dw_and (dt_cmp or_gt os_ord (db_of (de_bltn call_len cs_len (by rfl) T.n_len (by decide +kernel) (dm_bor (db_var 2 (pv 2) (.inl rfl)) dm_nil))) (db_of de_int) (nomark _)) (dw_and1 (dt_cmp (or_eq hr.units) os_eq (db_of (de_ix (db_var 2 (pv 2) (.inl rfl)) (db_of de_int) (fun _ _ => rfl))) (db_of de_str) (nomark _)))))))))
  (ds_one (ds_ret gok0 rfl de_non))
  ds_nil)
  (ds_cons (ds_for gok0 (passes_of rfl) rfl (di_str (de_var 2 (pv 2) rfl)) (dg_name 3 sc_l_place.nd rfl (by first | exact Or.inl rfl | exact Or.inr rfl))
  (ds_one (ds_if gok0 (dt_cmp (or_nin (hu65 hr)) os_nin (db_var 3 (pv 3) (.inl rfl)) (db_of de_str) (by rfl))
  (ds_one (ds_ret gok0 rfl de_non))
  ds_nil)))
  (ds_one (ds_app 1 gok0 rfl (pv 1) (de_type cr_int cs_int (by rfl) T.n_int (by decide +kernel) (dm_bor (db_var 2 (pv 2) (.inl rfl)) dm_nil)))))))
  (ds_one (ds_ret gok0 rfl (de_type call_tuple_of cs_tuple (by rfl) T.n_tuple (by decide +kernel) (dm_bor (db_var 1 (pv 1) (.inr (.inl rfl))) dm_nil)))))))

theorem ok_l_due (T : Txt K mg) : FnOk P w K mg base (L2.CX P w) 2 T.f_l_due T.fd_l_due ["_law_word"] (spD K T.cm [false] false F_l_due)   := dok (G' := []) (k := 1) T.F_l_due sc_l_due rfl (by decide) fun cdv A outer s H E hr =>
  (ds_cons (ds_set 1 gok0 sc_l_due.nd rfl (by first | exact Or.inl rfl | exact Or.inr rfl) (de_callV (ok_l_place T) (takes_of rfl rfl rfl rfl) (hr.mono (by decide)) (by rfl) T.g_l_place T.F_l_place.kp T.b_l_place (dm_val (de_var 0 (pv 0) rfl) dm_nil)))
  (ds_cons (ds_if gok0 (dt_cmp op_isN os_is (db_var 1 (pv 1) (.inl rfl)) (db_of de_non) (nomark _))
  (ds_one (ds_ret gok0 rfl (de_tup (da_cons de_str (da_cons (de_var 0 (pv 0) rfl) (da_cons de_bl da_nil))))))
  ds_nil)
  (ds_one (ds_ret gok0 rfl (de_tup (da_cons de_str (da_cons (de_var 1 (pv 1) rfl) da_nil)))))))

theorem ok_l_read (T : Txt K mg) : FnOk P w K mg base (L2.CX P w) 4 T.f_l_read T.fd_l_read ["_law_word"] (spD K T.cm [false] false F_l_read)   := dok (G' := []) (k := 3) T.F_l_read sc_l_read rfl (by decide) fun cdv A outer s H E hr =>
  (ds_cons (ds_try (isM := isM_BadValue) (Gs := [.v, .v, .v, .v]) gok0 rfl rfl sc_l_read.nd rfl rfl ⟨by rfl, by decide, .inl T.g_BadValue⟩ (takes_of rfl rfl rfl rfl) (by decide) T.exm_BadValue (fun W pn xe tk po => (ds_one (ds_set 1 gokT sc_l_read.nd rfl (by first | exact Or.inl rfl | exact Or.inr rfl) (de_callV (ok_read_place T) tk (hr.mono (by decide)) (by rfl) T.g_read_place T.F_read_place.kp T.b_read_place (dm_val (de_var 0 (pv 0) rfl) dm_nil)))))
  (fun a C dd oe pn hin hz hf => (ds_cons (ds_set 3 gokC sc_l_read.nd rfl (by first | exact Or.inl rfl | exact Or.inr rfl) (de_and (de_isX (v := .ref T.a_LaidError) (cv := .ref T.a_LaidError) (isM := isM_LaidError) rfl (T.xc_of_BadValue hin) hz hf (fun _ h => h) (fun n b h1 h2 => T.isi_LaidError n _ b h1 h2) T.n_isinstance (by rfl) (pv 2) (pe_glob (by rfl) T.g_LaidError rfl)) (de_one (de_isX (v := .ty "ValueError") (cv := .type "ValueError") (isM := isM_ValueError) rfl (T.xc_of_BadValue hin) hz hf (fun _ h => h) (fun n b h1 h2 => T.isi_ValueError n _ b h1 h2) T.n_isinstance (by rfl) (pv 2) (pe_bltn (u := .type "ValueError") (by rfl) T.n_ValueError (by decide +kernel) rfl)))))
  (ds_one (ds_ret gokC rfl (de_tup (da_cons de_str (da_cons (de_xf (T.xf_of_BadValue hin) (T.no_of_BadValue_text hin) rfl hz hf (pv 2)) (da_cons (de_and (de_var 3 (pv 3) rfl) (de_and (de_not (de_isX (v := .ref T.a_BadCommand) (cv := .ref T.a_BadCommand) (isM := isM_BadCommand) rfl (T.xc_of_BadValue hin) hz hf (fun _ h => h) (fun n b h1 h2 => T.isi_BadCommand n _ b h1 h2) T.n_isinstance (by rfl) (pv 2) (pe_glob (by rfl) T.g_BadCommand rfl))) (de_one (de_not (de_isX (v := .ref T.a_BadPattern) (cv := .ref T.a_BadPattern) (isM := isM_BadPattern) rfl (T.xc_of_BadValue hin) hz hf (fun _ h => h) (fun n b h1 h2 => T.isi_BadPattern n _ b h1 h2) T.n_isinstance (by rfl) (pv 2) (pe_glob (by rfl) T.g_BadPattern rfl)))))) da_nil)))))))) rfl rfl)
  (ds_one (ds_ret gok0 rfl (de_tup (da_cons de_str (da_cons (de_var 1 (pv 1) rfl) da_nil))))))

theorem ok_l_spoilt (T : Txt K mg) : FnOk P w K mg base (L2.CX P w) 1 T.f_l_spoilt T.fd_l_spoilt ["_law_word", "_law_way", "_law_at", "_law_pick"] (spD K T.cm [false, false, false, false] false F_l_spoilt)   := dok (G' := []) (k := 0) T.F_l_spoilt sc_l_spoilt rfl (by decide) fun cdv A outer s H E hr =>
  (ds_cons (ds_set 4 gok0 sc_l_spoilt.nd rfl (by first | exact Or.inl rfl | exact Or.inr rfl) (de_ix (db_own (de_lst (da_cons de_str (da_cons de_str (da_cons de_str (da_cons de_str (da_cons de_str (da_cons de_str (da_cons de_str (da_cons de_str (da_cons de_str (da_cons de_str (da_cons de_str (da_cons de_str da_nil)))))))))))))) (db_var 3 (pv 3) (.inl rfl)) (fun _ _ => rfl)))
  (ds_cons (ds_set 5 gok0 sc_l_spoilt.nd rfl (by first | exact Or.inl rfl | exact Or.inr rfl) (de_op op_mod os_mod (db_of (de_type cr_int cs_int (by rfl) T.n_int (by decide +kernel) (dm_bor (db_var 2 (pv 2) (.inl rfl)) dm_nil))) (db_of (de_op or_add os_add (db_of (de_bltn call_len cs_len (by rfl) T.n_len (by decide +kernel) (dm_bor (db_var 0 (pv 0) (.inl rfl)) dm_nil))) (db_of de_int)))))
  (ds_cons (ds_if gok0 (dt_cmp (or_eq hr.units) os_eq (db_var 1 (pv 1) (.inl rfl)) (db_of de_int) (nomark _))
  (ds_one (ds_ret gok0 rfl (de_op or_add os_add (db_of (de_op or_add os_add (db_of (de_sl (db_var 0 (pv 0) (.inl rfl)) dp_none (dp_some (de_var 5 (pv 5) rfl)))) (db_var 4 (pv 4) (.inl rfl)))) (db_of (de_sl (db_var 0 (pv 0) (.inl rfl)) (dp_some (de_var 5 (pv 5) rfl)) dp_none)))))
  ds_nil)
  (ds_cons (ds_if gok0 (dt_cmp (or_eq hr.units) os_eq (db_var 1 (pv 1) (.inl rfl)) (db_of de_int) (nomark _))
  (ds_one (ds_ret gok0 rfl (de_op or_add os_add (db_of (de_sl (db_var 0 (pv 0) (.inl rfl)) dp_none (dp_some (de_var 5 (pv 5) rfl)))) (db_of (de_sl (db_var 0 (pv 0) (.inl rfl)) (dp_some (de_op or_add os_add (db_var 5 (pv 5) (.inl rfl)) (db_of de_int))) dp_none)))))
  ds_nil)
  (ds_one (ds_ret gok0 rfl (de_op or_add os_add (db_of (de_op or_add os_add (db_of (de_sl (db_var 0 (pv 0) (.inl rfl)) dp_none (dp_some (de_var 5 (pv 5) rfl)))) (db_var 4 (pv 4) (.inl rfl)))) (db_of (de_sl (db_var 0 (pv 0) (.inl rfl)) (dp_some (de_op or_add os_add (db_var 5 (pv 5) (.inl rfl)) (db_of de_int))) dp_none)))))))))

theorem ok_l_odd (T : Txt K mg) : FnOk P w K mg base (L2.CX P w) 1 T.f_l_odd T.fd_l_odd ["_law_pick"] (spD K T.cm [false] false F_l_odd)   := dok (G' := []) (k := 0) T.F_l_odd sc_l_odd rfl (by decide) fun cdv A outer s H E hr =>
  (ds_cons (ds_set 1 gok0 sc_l_odd.nd rfl (by first | exact Or.inl rfl | exact Or.inr rfl) de_str)
  (ds_cons (ds_set 1 gok0 sc_l_odd.nd rfl (by first | exact Or.inl rfl | exact Or.inr rfl) (de_op or_add os_add (db_var 1 (pv 1) (.inl rfl)) (db_of de_str)))
  (ds_one (ds_ret gok0 rfl (de_ix (db_own (de_m1 PySem.F.slot_str_split PySem.F.type_str_split mt_split ms_split (db_var 1 (pv 1) (.inl rfl)) (db_of de_str))) (db_var 0 (pv 0) (.inl rfl)) (fun _ _ => rfl))))))

theorem ok_l_laying (T : Txt K mg) : FnOk P w K mg base (L2.CX P w) 2 T.f_l_laying T.fd_l_laying ["_law_cell_here"] (spD K T.cm [false] false F_l_laying)   := dok (G' := []) (k := 1) T.F_l_laying sc_l_laying rfl (by decide) fun cdv A outer s H E hr =>
  (ds_cons (ds_set 1 gok0 sc_l_laying.nd rfl (by first | exact Or.inl rfl | exact Or.inr rfl) (de_pub (de_lst (da_cons de_int da_nil))))
  (ds_cons (ds_for gok0 (passes_of rfl) rfl (di_rng1 T.n_range (by rfl) (da_cons de_int da_nil)) (dg_name 2 sc_l_laying.nd rfl (by first | exact Or.inl rfl | exact Or.inr rfl))
  (ds_one (ds_set 1 gok0 sc_l_laying.nd rfl (by first | exact Or.inl rfl | exact Or.inr rfl) (de_op or_add os_add (db_var 1 (pv 1) (.inl rfl)) (db_own (de_lst (da_cons de_int (da_cons de_int da_nil))))))))
  (ds_cons (ds_set 3 gok0 sc_l_laying.nd rfl (by first | exact Or.inl rfl | exact Or.inr rfl) (de_callV (ok_l_row T) (takes_of rfl rfl rfl rfl) (hr.mono (by decide)) (by rfl) T.g_l_row T.F_l_row.kp T.b_l_row (dm_val (de_var 0 (pv 0) rfl) (dm_val (de_var 1 (pv 1) rfl) dm_nil))))
  (ds_cons (ds_setO 4 gok0 (by decide) sc_l_laying.nd rfl (by first | exact Or.inl rfl | exact Or.inr rfl) (de_lst da_nil))
  (ds_cons (ds_asg gok0 (de_tup (da_cons de_int (da_cons de_int da_nil))) (dg_tup rfl (dg_cons (dg_name 5 sc_l_laying.nd rfl (by first | exact Or.inl rfl | exact Or.inr rfl)) (dg_cons (dg_name 6 sc_l_laying.nd rfl (by first | exact Or.inl rfl | exact Or.inr rfl)) dg_nil))))
  (ds_cons (ds_for gok0 (passes_of rfl) rfl (di_rng1 T.n_range (by rfl) (da_cons (de_ix (db_var 3 (pv 3) (.inl rfl)) (db_of de_int) (fun _ _ => rfl)) da_nil)) (dg_name 2 sc_l_laying.nd rfl (by first | exact Or.inl rfl | exact Or.inr rfl))
  (ds_cons (ds_set 5 gok0 sc_l_laying.nd rfl (by first | exact Or.inl rfl | exact Or.inr rfl) (de_op or_add os_add (db_of (de_op or_add os_add (db_var 5 (pv 5) (.inl rfl)) (db_of (de_ix (db_var 3 (pv 3) (.inl rfl)) (db_of (de_op or_add os_add (db_of (de_op or_mul os_mul (db_of de_int) (db_var 2 (pv 2) (.inl rfl)))) (db_of de_int))) (fun _ _ => rfl))))) (db_of de_int)))
  (ds_cons (ds_set 7 gok0 sc_l_laying.nd rfl (by first | exact Or.inl rfl | exact Or.inr rfl) de_non)
  (ds_cons (ds_if gok0 (dt_cmp (or_eq hr.units) os_eq (db_var 2 (pv 2) (.inl rfl)) (db_of de_int) (nomark _))
  (ds_one (ds_set 7 gok0 sc_l_laying.nd rfl (by first | exact Or.inl rfl | exact Or.inr rfl) de_int))
  (ds_one (ds_if gok0 (dt_cmp or_lt os_ord (db_of (de_ix (db_var 3 (pv 3) (.inl rfl)) (db_of (de_op or_add os_add (db_of (de_op or_mul os_mul (db_of de_int) (db_var 2 (pv 2) (.inl rfl)))) (db_of de_int))) (fun _ _ => rfl))) (db_of de_int) (nomark _))
  (ds_cons (ds_set 7 gok0 sc_l_laying.nd rfl (by first | exact Or.inl rfl | exact Or.inr rfl) (de_bltn (call_min2 rfl) cs_ints2 (by rfl) T.n_min (by decide +kernel) (dm_bor (db_of (de_ix (db_var 3 (pv 3) (.inl rfl)) (db_of (de_op or_add os_add (db_of (de_op or_mul os_mul (db_of de_int) (db_var 2 (pv 2) (.inl rfl)))) (db_of de_int))) (fun _ _ => rfl))) (dm_bor (db_var 6 (pv 6) (.inl rfl)) dm_nil))))
  (ds_one (ds_set 6 gok0 sc_l_laying.nd rfl (by first | exact Or.inl rfl | exact Or.inr rfl) (de_op op_sub os_sub (db_var 6 (pv 6) (.inl rfl)) (db_var 7 (pv 7) (.inl rfl))))))
  ds_nil)))
  (ds_one (ds_app 4 gok0 rfl (pv 4) (de_tup (da_cons (de_var 5 (pv 5) rfl) (da_cons (de_var 7 (pv 7) rfl) da_nil)))))))))
  (ds_one (ds_ret gok0 rfl (de_type call_tuple_of cs_tuple (by rfl) T.n_tuple (by decide +kernel) (dm_bor (db_var 4 (pv 4) (.inr (.inl rfl))) dm_nil))))))))))

theorem ok_l_lines (T : Txt K mg) : FnOk P w K mg base (L2.CX P w) 1 T.f_l_lines T.fd_l_lines ["_law_laying_here"] (spD K T.cm [false] false F_l_lines)   := dok (G' := []) (k := 0) T.F_l_lines sc_l_lines rfl (by decide) fun cdv A outer s H E hr =>
  (ds_cons (ds_setO 1 gok0 (by decide) sc_l_lines.nd rfl (by first | exact Or.inl rfl | exact Or.inr rfl) (de_lst da_nil))
  (ds_cons (ds_for gok0 (passes_of rfl) rfl (di_tup (de_var 0 (pv 0) rfl)) (dg_name 2 sc_l_lines.nd rfl (by first | exact Or.inl rfl | exact Or.inr rfl))
  (ds_one (ds_if gok0 (dt_cmp op_isN os_is (db_of (de_ix (db_var 2 (pv 2) (.inl rfl)) (db_of de_int) (fun _ _ => rfl))) (db_of de_non) (nomark _))
  (ds_one (ds_app 1 gok0 rfl (pv 1) (de_type call_str_int cs_str (by rfl) T.n_str (by decide +kernel) (dm_bor (db_of (de_ix (db_var 2 (pv 2) (.inl rfl)) (db_of de_int) (fun _ _ => rfl))) dm_nil))))
  (ds_one (ds_app 1 gok0 rfl (pv 1) (de_op or_add os_add (db_of (de_op or_add os_add (db_of (de_type call_str_int cs_str (by rfl) T.n_str (by decide +kernel) (dm_bor (db_of (de_ix (db_var 2 (pv 2) (.inl rfl)) (db_of de_int) (fun _ _ => rfl))) dm_nil))) (db_of de_str))) (db_of (de_type call_str_int cs_str (by rfl) T.n_str (by decide +kernel) (dm_bor (db_of (de_ix (db_var 2 (pv 2) (.inl rfl)) (db_of de_int) (fun _ _ => rfl))) dm_nil)))))))))
  (ds_pub 1 (ds_one (ds_ret gok0 rfl (de_var 1 (pv 1) rfl))) (.inl rfl))))

theorem ok_law (T : Txt K mg) : FnOk P w K mg base (L2.CX P w) 6 T.f_law T.fd_law ["_law_script"] (spD K T.cm [false] false F_law)   := dok (G' := []) (k := 5) T.F_law sc_law rfl (by decide) fun cdv A outer s H E hr =>
  (ds_cons (ds_set 1 gok0 sc_law.nd rfl (by first | exact Or.inl rfl | exact Or.inr rfl) (de_callV (ok_l_drawn T) (takes_of rfl rfl rfl rfl) (hr.mono (by decide)) (by rfl) T.g_l_drawn T.F_l_drawn.kp T.b_l_drawn (dm_val (de_callV (ok_l_cell T) (takes_of rfl rfl rfl rfl) (hr.mono (by decide)) (by rfl) T.g_l_cell T.F_l_cell.kp T.b_l_cell (dm_val (de_var 0 (pv 0) rfl) (dm_val de_int dm_nil))) (dm_val de_int dm_nil))))
  (ds_cons (ds_set 2 gok0 sc_law.nd rfl (by first | exact Or.inl rfl | exact Or.inr rfl) (de_callV (ok_l_written T) (takes_of rfl rfl rfl rfl) (hr.mono (by decide)) (by rfl) T.g_l_written T.F_l_written.kp T.b_l_written (dm_val (de_var 1 (pv 1) rfl) dm_nil)))
  (ds_cons (ds_if gok0 (PW.pt (dw_or (dt_not (dt_val (de_callV (ok_l_same (n := 4) T) (takes_of rfl rfl rfl rfl) (hr.mono (by decide)) (by rfl) T.g_l_same T.F_l_same.kp T.b_l_same (dm_bor (db_of (de_callV (ok_write_place T) (takes_of rfl rfl rfl rfl) (hr.mono (by decide)) (by rfl) T.g_write_place T.F_write_place.kp T.b_write_place (dm_val (de_var 1 (pv 1) rfl) dm_nil))) (dm_bor (db_var 2 (pv 2) (.inl rfl)) dm_nil))))) (dw_or1 (dt_not (dt_val (de_callV (ok_l_same (n := 4) T) (takes_of rfl rfl rfl rfl) (hr.mono (by decide)) (by rfl) T.g_l_same T.F_l_same.kp T.b_l_same (dm_bor (db_of (de_callV (ok_l_read T) (takes_of rfl rfl rfl rfl) (hr.mono (by decide)) (by rfl) T.g_l_read T.F_l_read.kp T.b_l_read (dm_val (de_var 2 (pv 2) rfl) dm_nil))) (dm_bor (db_of (de_tup (da_cons de_str (da_cons (de_var 1 (pv 1) rfl) da_nil)))) dm_nil))))))))
  (ds_one (ds_ret gok0 rfl de_bl))
  ds_nil)
  (ds_cons (ds_set 3 gok0 sc_law.nd rfl (by first | exact Or.inl rfl | exact Or.inr rfl) (de_callV (ok_l_row T) (takes_of rfl rfl rfl rfl) (hr.mono (by decide)) (by rfl) T.g_l_row T.F_l_row.kp T.b_l_row (dm_val (de_callV (ok_l_cell T) (takes_of rfl rfl rfl rfl) (hr.mono (by decide)) (by rfl) T.g_l_cell T.F_l_cell.kp T.b_l_cell (dm_val (de_var 0 (pv 0) rfl) (dm_val de_int dm_nil))) (dm_val (de_pub (de_lst (da_cons de_int (da_cons de_int (da_cons de_int (da_cons de_int (da_cons de_int (da_cons de_int (da_cons de_int da_nil))))))))) dm_nil))))
  (ds_cons (ds_set 4 gok0 sc_law.nd rfl (by first | exact Or.inl rfl | exact Or.inr rfl) (de_callV (ok_l_written T) (takes_of rfl rfl rfl rfl) (hr.mono (by decide)) (by rfl) T.g_l_written T.F_l_written.kp T.b_l_written (dm_val (de_callV (ok_l_drawn T) (takes_of rfl rfl rfl rfl) (hr.mono (by decide)) (by rfl) T.g_l_drawn T.F_l_drawn.kp T.b_l_drawn (dm_val (de_callV (ok_l_cell T) (takes_of rfl rfl rfl rfl) (hr.mono (by decide)) (by rfl) T.g_l_cell T.F_l_cell.kp T.b_l_cell (dm_val (de_var 0 (pv 0) rfl) (dm_val de_int dm_nil))) (dm_val de_int dm_nil))) dm_nil)))
  (ds_cons (ds_set 5 gok0 sc_law.nd rfl (by first | exact Or.inl rfl | exact Or.inr rfl) (de_callV (ok_l_spoilt T) (takes_of rfl rfl rfl rfl) (hr.mono (by decide)) (by rfl) T.g_l_spoilt T.F_l_spoilt.kp T.b_l_spoilt (dm_val (de_var 4 (pv 4) rfl) (dm_val (de_ix (db_var 3 (pv 3) (.inl rfl)) (db_of de_int) (fun _ _ => rfl)) (dm_val (de_ix (db_var 3 (pv 3) (.inl rfl)) (db_of de_int) (fun _ _ => rfl)) (dm_val (de_ix (db_var 3 (pv 3) (.inl rfl)) (db_of de_int) (fun _ _ => rfl)) dm_nil))))))
  (ds_cons (ds_set 6 gok0 sc_law.nd rfl (by first | exact Or.inl rfl | exact Or.inr rfl) (de_callV (ok_l_spoilt T) (takes_of rfl rfl rfl rfl) (hr.mono (by decide)) (by rfl) T.g_l_spoilt T.F_l_spoilt.kp T.b_l_spoilt (dm_val (de_var 5 (pv 5) rfl) (dm_val (de_ix (db_var 3 (pv 3) (.inl rfl)) (db_of de_int) (fun _ _ => rfl)) (dm_val (de_ix (db_var 3 (pv 3) (.inl rfl)) (db_of de_int) (fun _ _ => rfl)) (dm_val (de_ix (db_var 3 (pv 3) (.inl rfl)) (db_of de_int) (fun _ _ => rfl)) dm_nil))))))
  (ds_cons (ds_for gok0 (passes_of rfl) rfl (di_list (de_pub (de_lst (da_cons (de_var 4 (pv 4) rfl) (da_cons (de_var 5 (pv 5) rfl) (da_cons (de_var 6 (pv 6) rfl) (da_cons (de_callV (ok_l_odd T) (takes_of rfl rfl rfl rfl) (hr.mono (by decide)) (by rfl) T.g_l_odd T.F_l_odd.kp T.b_l_odd (dm_val (de_ix (db_var 3 (pv 3) (.inl rfl)) (db_of de_int) (fun _ _ => rfl)) dm_nil)) da_nil))))))) (dg_name 7 sc_law.nd rfl (by first | exact Or.inl rfl | exact Or.inr rfl))
  (ds_one (ds_if gok0 (PW.pt (dw_or (dt_not (dt_val (de_callV (ok_l_same (n := 4) T) (takes_of rfl rfl rfl rfl) (hr.mono (by decide)) (by rfl) T.g_l_same T.F_l_same.kp T.b_l_same (dm_bor (db_of (de_callV (ok_l_read T) (takes_of rfl rfl rfl rfl) (hr.mono (by decide)) (by rfl) T.g_l_read T.F_l_read.kp T.b_l_read (dm_val (de_var 7 (pv 7) rfl) dm_nil))) (dm_bor (db_of (de_callV (ok_l_due T) (takes_of rfl rfl rfl rfl) (hr.mono (by decide)) (by rfl) T.g_l_due T.F_l_due.kp T.b_l_due (dm_val (de_var 7 (pv 7) rfl) dm_nil))) dm_nil))))) (dw_or1 (dt_not (dt_val (de_callV (ok_l_same (n := 4) T) (takes_of rfl rfl rfl rfl) (hr.mono (by decide)) (by rfl) T.g_l_same T.F_l_same.kp T.b_l_same (dm_bor (db_of (de_callV (ok_l_read T) (takes_of rfl rfl rfl rfl) (hr.mono (by decide)) (by rfl) T.g_l_read T.F_l_read.kp T.b_l_read (dm_val (de_var 2 (pv 2) rfl) dm_nil))) (dm_bor (db_of (de_tup (da_cons de_str (da_cons (de_var 1 (pv 1) rfl) da_nil)))) dm_nil))))))))
  (ds_one (ds_ret gok0 rfl de_bl))
  ds_nil)))
  (ds_cons (ds_set 8 gok0 sc_law.nd rfl (by first | exact Or.inl rfl | exact Or.inr rfl) (de_callV (ok_l_laying T) (takes_of rfl rfl rfl rfl) (hr.mono (by decide)) (by rfl) T.g_l_laying T.F_l_laying.kp T.b_l_laying (dm_val (de_callV (ok_l_cell T) (takes_of rfl rfl rfl rfl) (hr.mono (by decide)) (by rfl) T.g_l_cell T.F_l_cell.kp T.b_l_cell (dm_val (de_var 0 (pv 0) rfl) (dm_val de_int dm_nil))) dm_nil)))
  (ds_cons (ds_set 9 gok0 sc_law.nd rfl (by first | exact Or.inl rfl | exact Or.inr rfl) (de_callV (ok_l_lines T) (takes_of rfl rfl rfl rfl) (hr.mono (by decide)) (by rfl) T.g_l_lines T.F_l_lines.kp T.b_l_lines (dm_val (de_var 8 (pv 8) rfl) dm_nil)))
  (ds_cons (ds_setO 10 gok0 (by decide) sc_law.nd rfl (by first | exact Or.inl rfl | exact Or.inr rfl) (de_callO (ok_write_laying T) (takes_of rfl rfl rfl rfl) (hr.mono (by decide)) (by rfl) T.g_write_laying T.F_write_laying.kp T.b_write_laying (dm_val (de_var 8 (pv 8) rfl) dm_nil)))
  (ds_cons (ds_if gok0 (dt_not (dt_val (de_callV (ok_l_same (n := 4) T) (takes_of rfl rfl rfl rfl) (hr.mono (by decide)) (by rfl) T.g_l_same T.F_l_same.kp T.b_l_same (dm_bor (db_var 10 (pv 10) (.inr (.inl rfl))) (dm_bor (db_var 9 (pv 9) (.inl rfl)) dm_nil)))))
  (ds_one (ds_ret gok0 rfl de_bl))
  ds_nil)
  (ds_cons (ds_app 10 gok0 rfl (pv 10) de_str)
  (ds_one (ds_ret gok0 rfl (de_callV (ok_l_same (n := 4) T) (takes_of rfl rfl rfl rfl) (hr.mono (by decide)) (by rfl) T.g_l_same T.F_l_same.kp T.b_l_same (dm_bor (db_own (de_callO (ok_write_laying T) (takes_of rfl rfl rfl rfl) (hr.mono (by decide)) (by rfl) T.g_write_laying T.F_write_laying.kp T.b_write_laying (dm_val (de_var 8 (pv 8) rfl) dm_nil))) (dm_bor (db_var 9 (pv 9) (.inl rfl)) dm_nil))))))))))))))))))
end
end Lk

end S_P_walk
section S_P_end
set_option Elab.async false
set_option linter.all false
set_option maxRecDepth 100000
set_option maxHeartbeats 4000000
namespace Lk
open PySem L2 Dx PySem.Spec PyProof.Rows
theorem txt_mk {K : PySem.W.Frag} {h : Heap} {mg : Str → Option Value} (X : K.In h) (G : h.Ns mainGlobals mg)
    {f0 : Addr} {oc0 kV0 dc0 pm0 cd0 ct0 : Value} {od0 an0 : Option Addr} {sl0 : Array (Option Value)}
    {f1 : Addr} {oc1 kV1 dc1 pm1 cd1 ct1 : Value} {od1 an1 : Option Addr} {sl1 : Array (Option Value)}
    {f2 : Addr} {oc2 kV2 dc2 pm2 cd2 ct2 : Value} {od2 an2 : Option Addr} {sl2 : Array (Option Value)}
    {f3 : Addr} {oc3 kV3 dc3 pm3 cd3 ct3 : Value} {od3 an3 : Option Addr} {sl3 : Array (Option Value)}
    {f4 : Addr} {oc4 kV4 dc4 pm4 cd4 ct4 : Value} {od4 an4 : Option Addr} {sl4 : Array (Option Value)}
    {f5 : Addr} {oc5 kV5 dc5 pm5 cd5 ct5 : Value} {od5 an5 : Option Addr} {sl5 : Array (Option Value)}
    {f6 : Addr} {oc6 kV6 dc6 pm6 cd6 ct6 : Value} {od6 an6 : Option Addr} {sl6 : Array (Option Value)}
    {f7 : Addr} {oc7 kV7 dc7 pm7 cd7 ct7 : Value} {od7 an7 : Option Addr} {sl7 : Array (Option Value)}
    {f8 : Addr} {oc8 kV8 dc8 pm8 cd8 ct8 : Value} {od8 an8 : Option Addr} {sl8 : Array (Option Value)}
    {f9 : Addr} {oc9 kV9 dc9 pm9 cd9 ct9 : Value} {od9 an9 : Option Addr} {sl9 : Array (Option Value)}
    {f10 : Addr} {oc10 kV10 dc10 pm10 cd10 ct10 : Value} {od10 an10 : Option Addr} {sl10 : Array (Option Value)}
    {f11 : Addr} {oc11 kV11 dc11 pm11 cd11 ct11 : Value} {od11 an11 : Option Addr} {sl11 : Array (Option Value)}
    {f12 : Addr} {oc12 kV12 dc12 pm12 cd12 ct12 : Value} {od12 an12 : Option Addr} {sl12 : Array (Option Value)}
    {f13 : Addr} {oc13 kV13 dc13 pm13 cd13 ct13 : Value} {od13 an13 : Option Addr} {sl13 : Array (Option Value)}
    {f14 : Addr} {oc14 kV14 dc14 pm14 cd14 ct14 : Value} {od14 an14 : Option Addr} {sl14 : Array (Option Value)}
    {f15 : Addr} {oc15 kV15 dc15 pm15 cd15 ct15 : Value} {od15 an15 : Option Addr} {sl15 : Array (Option Value)}
    {f16 : Addr} {oc16 kV16 dc16 pm16 cd16 ct16 : Value} {od16 an16 : Option Addr} {sl16 : Array (Option Value)}
    {f17 : Addr} {oc17 kV17 dc17 pm17 cd17 ct17 : Value} {od17 an17 : Option Addr} {sl17 : Array (Option Value)}
    {t_DIGITS : Tok}
    {t_MOST_INDEXES : Tok}
    {A_BadCommand : Addr}
    {A_BadPattern : Addr}
    {A_BadValue : Addr}
    {A_LaidError : Addr}
    {nm_BadValue qq_BadValue : Str} {N_BadValue fI_BadValue : Addr} {bs_BadValue bm_BadValue : List Value} {sn_BadValue : List Str} {sb_BadValue : List Value} {ab_BadValue : Bool} {co_BadValue : Option Bool} {dd_BadValue od_BadValue an_BadValue : Option Addr} {m0_BadValue m1_BadValue m2_BadValue m3_BadValue m5_BadValue : Option Value} {oc_BadValue kV_BadValue dc_BadValue pm_BadValue cd_BadValue ct_BadValue : Value} {sl_BadValue : Array (Option Value)}
    (a0 : PySem.W.nsIn K mainGlobals "digits_value" = some (some (.ref f0))) (l0 : K.lookup f0 = some ⟨oc0, od0, .func (PySem.W.fnOf "digits_value" "digits_value" (defArgs s_digits_value) (defBody s_digits_value) (defScope s_digits_value) .none kV0 dc0 pm0 an0 cd0 ct0), sl0⟩) (c0 : PySem.W.codeIn K cd0 "digits_value" = true) (k0 : PySem.W.keepIn K (.ref f0) = true)
    (a1 : PySem.W.nsIn K mainGlobals "write_place" = some (some (.ref f1))) (l1 : K.lookup f1 = some ⟨oc1, od1, .func (PySem.W.fnOf "write_place" "write_place" (defArgs s_write_place) (defBody s_write_place) (defScope s_write_place) .none kV1 dc1 pm1 an1 cd1 ct1), sl1⟩) (c1 : PySem.W.codeIn K cd1 "write_place" = true) (k1 : PySem.W.keepIn K (.ref f1) = true)
    (a2 : PySem.W.nsIn K mainGlobals "read_place" = some (some (.ref f2))) (l2 : K.lookup f2 = some ⟨oc2, od2, .func (PySem.W.fnOf "read_place" "read_place" (defArgs s_read_place) (defBody s_read_place) (defScope s_read_place) .none kV2 dc2 pm2 an2 cd2 ct2), sl2⟩) (c2 : PySem.W.codeIn K cd2 "read_place" = true) (k2 : PySem.W.keepIn K (.ref f2) = true)
    (a3 : PySem.W.nsIn K mainGlobals "write_laying" = some (some (.ref f3))) (l3 : K.lookup f3 = some ⟨oc3, od3, .func (PySem.W.fnOf "write_laying" "write_laying" (defArgs s_write_laying) (defBody s_write_laying) (defScope s_write_laying) .none kV3 dc3 pm3 an3 cd3 ct3), sl3⟩) (c3 : PySem.W.codeIn K cd3 "write_laying" = true) (k3 : PySem.W.keepIn K (.ref f3) = true)
    (a4 : PySem.W.nsIn K mainGlobals "_law_cell" = some (some (.ref f4))) (l4 : K.lookup f4 = some ⟨oc4, od4, .func (PySem.W.fnOf "_law_cell" "_law_cell" (defArgs s_l_cell) (defBody s_l_cell) (defScope s_l_cell) .none kV4 dc4 pm4 an4 cd4 ct4), sl4⟩) (c4 : PySem.W.codeIn K cd4 "_law_cell" = true) (k4 : PySem.W.keepIn K (.ref f4) = true)
    (a5 : PySem.W.nsIn K mainGlobals "_law_row" = some (some (.ref f5))) (l5 : K.lookup f5 = some ⟨oc5, od5, .func (PySem.W.fnOf "_law_row" "_law_row" (defArgs s_l_row) (defBody s_l_row) (defScope s_l_row) .none kV5 dc5 pm5 an5 cd5 ct5), sl5⟩) (c5 : PySem.W.codeIn K cd5 "_law_row" = true) (k5 : PySem.W.keepIn K (.ref f5) = true)
    (a6 : PySem.W.nsIn K mainGlobals "_law_same" = some (some (.ref f6))) (l6 : K.lookup f6 = some ⟨oc6, od6, .func (PySem.W.fnOf "_law_same" "_law_same" (defArgs s_l_same) (defBody s_l_same) (defScope s_l_same) .none kV6 dc6 pm6 an6 cd6 ct6), sl6⟩) (c6 : PySem.W.codeIn K cd6 "_law_same" = true) (k6 : PySem.W.keepIn K (.ref f6) = true)
    (a7 : PySem.W.nsIn K mainGlobals "_law_index" = some (some (.ref f7))) (l7 : K.lookup f7 = some ⟨oc7, od7, .func (PySem.W.fnOf "_law_index" "_law_index" (defArgs s_l_index) (defBody s_l_index) (defScope s_l_index) .none kV7 dc7 pm7 an7 cd7 ct7), sl7⟩) (c7 : PySem.W.codeIn K cd7 "_law_index" = true) (k7 : PySem.W.keepIn K (.ref f7) = true)
    (a8 : PySem.W.nsIn K mainGlobals "_law_drawn" = some (some (.ref f8))) (l8 : K.lookup f8 = some ⟨oc8, od8, .func (PySem.W.fnOf "_law_drawn" "_law_drawn" (defArgs s_l_drawn) (defBody s_l_drawn) (defScope s_l_drawn) .none kV8 dc8 pm8 an8 cd8 ct8), sl8⟩) (c8 : PySem.W.codeIn K cd8 "_law_drawn" = true) (k8 : PySem.W.keepIn K (.ref f8) = true)
    (a9 : PySem.W.nsIn K mainGlobals "_law_written" = some (some (.ref f9))) (l9 : K.lookup f9 = some ⟨oc9, od9, .func (PySem.W.fnOf "_law_written" "_law_written" (defArgs s_l_written) (defBody s_l_written) (defScope s_l_written) .none kV9 dc9 pm9 an9 cd9 ct9), sl9⟩) (c9 : PySem.W.codeIn K cd9 "_law_written" = true) (k9 : PySem.W.keepIn K (.ref f9) = true)
    (a10 : PySem.W.nsIn K mainGlobals "_law_place" = some (some (.ref f10))) (l10 : K.lookup f10 = some ⟨oc10, od10, .func (PySem.W.fnOf "_law_place" "_law_place" (defArgs s_l_place) (defBody s_l_place) (defScope s_l_place) .none kV10 dc10 pm10 an10 cd10 ct10), sl10⟩) (c10 : PySem.W.codeIn K cd10 "_law_place" = true) (k10 : PySem.W.keepIn K (.ref f10) = true)
    (a11 : PySem.W.nsIn K mainGlobals "_law_due" = some (some (.ref f11))) (l11 : K.lookup f11 = some ⟨oc11, od11, .func (PySem.W.fnOf "_law_due" "_law_due" (defArgs s_l_due) (defBody s_l_due) (defScope s_l_due) .none kV11 dc11 pm11 an11 cd11 ct11), sl11⟩) (c11 : PySem.W.codeIn K cd11 "_law_due" = true) (k11 : PySem.W.keepIn K (.ref f11) = true)
    (a12 : PySem.W.nsIn K mainGlobals "_law_read" = some (some (.ref f12))) (l12 : K.lookup f12 = some ⟨oc12, od12, .func (PySem.W.fnOf "_law_read" "_law_read" (defArgs s_l_read) (defBody s_l_read) (defScope s_l_read) .none kV12 dc12 pm12 an12 cd12 ct12), sl12⟩) (c12 : PySem.W.codeIn K cd12 "_law_read" = true) (k12 : PySem.W.keepIn K (.ref f12) = true)
    (a13 : PySem.W.nsIn K mainGlobals "_law_spoilt" = some (some (.ref f13))) (l13 : K.lookup f13 = some ⟨oc13, od13, .func (PySem.W.fnOf "_law_spoilt" "_law_spoilt" (defArgs s_l_spoilt) (defBody s_l_spoilt) (defScope s_l_spoilt) .none kV13 dc13 pm13 an13 cd13 ct13), sl13⟩) (c13 : PySem.W.codeIn K cd13 "_law_spoilt" = true) (k13 : PySem.W.keepIn K (.ref f13) = true)
    (a14 : PySem.W.nsIn K mainGlobals "_law_odd" = some (some (.ref f14))) (l14 : K.lookup f14 = some ⟨oc14, od14, .func (PySem.W.fnOf "_law_odd" "_law_odd" (defArgs s_l_odd) (defBody s_l_odd) (defScope s_l_odd) .none kV14 dc14 pm14 an14 cd14 ct14), sl14⟩) (c14 : PySem.W.codeIn K cd14 "_law_odd" = true) (k14 : PySem.W.keepIn K (.ref f14) = true)
    (a15 : PySem.W.nsIn K mainGlobals "_law_laying" = some (some (.ref f15))) (l15 : K.lookup f15 = some ⟨oc15, od15, .func (PySem.W.fnOf "_law_laying" "_law_laying" (defArgs s_l_laying) (defBody s_l_laying) (defScope s_l_laying) .none kV15 dc15 pm15 an15 cd15 ct15), sl15⟩) (c15 : PySem.W.codeIn K cd15 "_law_laying" = true) (k15 : PySem.W.keepIn K (.ref f15) = true)
    (a16 : PySem.W.nsIn K mainGlobals "_law_lines" = some (some (.ref f16))) (l16 : K.lookup f16 = some ⟨oc16, od16, .func (PySem.W.fnOf "_law_lines" "_law_lines" (defArgs s_l_lines) (defBody s_l_lines) (defScope s_l_lines) .none kV16 dc16 pm16 an16 cd16 ct16), sl16⟩) (c16 : PySem.W.codeIn K cd16 "_law_lines" = true) (k16 : PySem.W.keepIn K (.ref f16) = true)
    (a17 : PySem.W.nsIn K mainGlobals "law" = some (some (.ref f17))) (l17 : K.lookup f17 = some ⟨oc17, od17, .func (PySem.W.fnOf "law" "law" (defArgs s_law) (defBody s_law) (defScope s_law) .none kV17 dc17 pm17 an17 cd17 ct17), sl17⟩) (c17 : PySem.W.codeIn K cd17 "law" = true) (k17 : PySem.W.keepIn K (.ref f17) = true)
    (z_ValueError : PySem.W.nsIn K mainGlobals "ValueError" = some none)
    (z_bool : PySem.W.nsIn K mainGlobals "bool" = some none)
    (z_int : PySem.W.nsIn K mainGlobals "int" = some none)
    (z_isinstance : PySem.W.nsIn K mainGlobals "isinstance" = some none)
    (z_len : PySem.W.nsIn K mainGlobals "len" = some none)
    (z_list : PySem.W.nsIn K mainGlobals "list" = some none)
    (z_min : PySem.W.nsIn K mainGlobals "min" = some none)
    (z_range : PySem.W.nsIn K mainGlobals "range" = some none)
    (z_str : PySem.W.nsIn K mainGlobals "str" = some none)
    (z_tuple : PySem.W.nsIn K mainGlobals "tuple" = some none)
    (y_DIGITS : PySem.W.nsIn K mainGlobals "DIGITS" = some (some (.str "0123456789" t_DIGITS)))
    (y_MOST_INDEXES : PySem.W.nsIn K mainGlobals "MOST_INDEXES" = some (some (.int 12 t_MOST_INDEXES)))
    (x_BadCommand : PySem.W.nsIn K mainGlobals "BadCommand" = some (some (.ref A_BadCommand)))
    (x_BadPattern : PySem.W.nsIn K mainGlobals "BadPattern" = some (some (.ref A_BadPattern)))
    (x_BadValue : PySem.W.nsIn K mainGlobals "BadValue" = some (some (.ref A_BadValue)))
    (x_LaidError : PySem.W.nsIn K mainGlobals "LaidError" = some (some (.ref A_LaidError)))
    (X1_BadValue : K.lookup A_BadValue = some (excClassObj nm_BadValue qq_BadValue A_BadValue N_BadValue bs_BadValue bm_BadValue true sn_BadValue sb_BadValue ab_BadValue co_BadValue dd_BadValue m0_BadValue m1_BadValue m2_BadValue m3_BadValue m5_BadValue "ValueError.__new__")) (X2_BadValue : PySem.HandSPX.refsVE bm_BadValue = true)
    (X3_BadValue : PySem.W.findIn K (.ref A_BadValue) "__setattr__" = some (some (.builtin "object.__setattr__"))) (X4_BadValue : PySem.W.subIn K (.ref A_BadValue) (.type "BaseException") = some true) (X5_BadValue : PySem.W.typeIn K (.ref A_BadValue) = some (.type "type")) (X6_BadValue : PySem.W.keepIn K (.ref A_BadValue) = true)
    (X7_BadValue : PySem.W.findIn K (.ref A_BadValue) "__init__" = some (some (.ref fI_BadValue))) (X8_BadValue : PySem.W.typeIn K (.ref fI_BadValue) = some (.type "function")) (X9_BadValue : K.lookup fI_BadValue = some ⟨oc_BadValue, od_BadValue, .func (PySem.W.fnOf "__init__" "BadValue.__init__" (defArgs s_BadValue) (defBody s_BadValue) (defScope s_BadValue) .none kV_BadValue dc_BadValue pm_BadValue an_BadValue cd_BadValue ct_BadValue), sl_BadValue⟩) (Xa_BadValue : PySem.W.codeIn K cd_BadValue "BadValue.__init__" = true) (Xb_BadValue : PySem.W.keepIn K (.ref fI_BadValue) = true)
    (Y0_BadValue : PySem.W.findIn K (.ref A_BadValue) "text" = some none)
    (Xc_BadValue : PySem.W.findIn K (.ref A_BadValue) "__getattribute__" = some (some (.builtin "BaseException.__getattribute__"))) (Xd_BadValue : PySem.W.findIn K (.ref A_BadValue) "__getattr__" = some none) (Xe_BadValue : PySem.W.hasDictIn K A_BadValue = true)
    (Xf_BadValue : PySem.W.findIn K (.ref A_BadValue) "__class__" = some (some (.builtin "object.__class__"))) (Xg_BadValue : PySem.W.specialIn K (.builtin "object.__class__") "__get__" = some (some (.builtin "getset_descriptor.__get__"))) (Xh_BadValue : PySem.W.takesIn K (.builtin "object.__class__") = some true) (Xi_BadValue : PySem.W.mroIn K A_BadValue (.type "object") = some true)
    (E_BadValue_BadValue : PySem.W.exmOne K (.ref A_BadValue) (.ref A_BadValue) = some true)
    (Q_BadValue_BadCommand : PySem.W.kitOne K (.ref A_BadValue) (.ref A_BadCommand) = some false)
    (Q_BadValue_BadPattern : PySem.W.kitOne K (.ref A_BadValue) (.ref A_BadPattern) = some false)
    (Q_BadValue_LaidError : PySem.W.kitOne K (.ref A_BadValue) (.ref A_LaidError) = some true)
    (Q_BadValue_ValueError : PySem.W.kitOne K (.ref A_BadValue) (.type "ValueError") = some true) : ∃ T : Txt K mg, T.f_law = f17 ∧ T.fd_law = PySem.W.fnOf "law" "law" (defArgs s_law) (defBody s_law) (defScope s_law) .none kV17 dc17 pm17 an17 cd17 ct17 := by
  have F0 := fun_mk (st := s_digits_value) l0 c0 k0
  have b0 := F0.binds (ps := ["text"]) fun _ _ _ _ _ _ us hl => match us, hl with | [_], _ => rfl
  have F1 := fun_mk (st := s_write_place) l1 c1 k1
  have b1 := F1.binds (ps := ["place"]) fun _ _ _ _ _ _ us hl => match us, hl with | [_], _ => rfl
  have F2 := fun_mk (st := s_read_place) l2 c2 k2
  have b2 := F2.binds (ps := ["word"]) fun _ _ _ _ _ _ us hl => match us, hl with | [_], _ => rfl
  have F3 := fun_mk (st := s_write_laying) l3 c3 k3
  have b3 := F3.binds (ps := ["laying"]) fun _ _ _ _ _ _ us hl => match us, hl with | [_], _ => rfl
  have F4 := fun_mk (st := s_l_cell) l4 c4 k4
  have b4 := F4.binds (ps := ["_law_script", "_law_k"]) fun _ _ _ _ _ _ us hl => match us, hl with | [_, _], _ => rfl
  have F5 := fun_mk (st := s_l_row) l5 c5 k5
  have b5 := F5.binds (ps := ["_law_cell_here", "_law_limits"]) fun _ _ _ _ _ _ us hl => match us, hl with | [_, _], _ => rfl
  have F6 := fun_mk (st := s_l_same) l6 c6 k6
  have b6 := F6.binds (ps := ["_law_one", "_law_two"]) fun _ _ _ _ _ _ us hl => match us, hl with | [_, _], _ => rfl
  have F7 := fun_mk (st := s_l_index) l7 c7 k7
  have b7 := F7.binds (ps := ["_law_way", "_law_worth"]) fun _ _ _ _ _ _ us hl => match us, hl with | [_, _], _ => rfl
  have F8 := fun_mk (st := s_l_drawn) l8 c8 k8
  have b8 := F8.binds (ps := ["_law_cell_here", "_law_many"]) fun _ _ _ _ _ _ us hl => match us, hl with | [_, _], _ => rfl
  have F9 := fun_mk (st := s_l_written) l9 c9 k9
  have b9 := F9.binds (ps := ["_law_place_here"]) fun _ _ _ _ _ _ us hl => match us, hl with | [_], _ => rfl
  have F10 := fun_mk (st := s_l_place) l10 c10 k10
  have b10 := F10.binds (ps := ["_law_word"]) fun _ _ _ _ _ _ us hl => match us, hl with | [_], _ => rfl
  have F11 := fun_mk (st := s_l_due) l11 c11 k11
  have b11 := F11.binds (ps := ["_law_word"]) fun _ _ _ _ _ _ us hl => match us, hl with | [_], _ => rfl
  have F12 := fun_mk (st := s_l_read) l12 c12 k12
  have b12 := F12.binds (ps := ["_law_word"]) fun _ _ _ _ _ _ us hl => match us, hl with | [_], _ => rfl
  have F13 := fun_mk (st := s_l_spoilt) l13 c13 k13
  have b13 := F13.binds (ps := ["_law_word", "_law_way", "_law_at", "_law_pick"]) fun _ _ _ _ _ _ us hl => match us, hl with | [_, _, _, _], _ => rfl
  have F14 := fun_mk (st := s_l_odd) l14 c14 k14
  have b14 := F14.binds (ps := ["_law_pick"]) fun _ _ _ _ _ _ us hl => match us, hl with | [_], _ => rfl
  have F15 := fun_mk (st := s_l_laying) l15 c15 k15
  have b15 := F15.binds (ps := ["_law_cell_here"]) fun _ _ _ _ _ _ us hl => match us, hl with | [_], _ => rfl
  have F16 := fun_mk (st := s_l_lines) l16 c16 k16
  have b16 := F16.binds (ps := ["_law_laying_here"]) fun _ _ _ _ _ _ us hl => match us, hl with | [_], _ => rfl
  have F17 := fun_mk (st := s_law) l17 c17 k17
  have b17 := F17.binds (ps := ["_law_script"]) fun _ _ _ _ _ _ us hl => match us, hl with | [_], _ => rfl
  have FI_BadValue := fun_mk (st := s_BadValue) X9_BadValue Xa_BadValue Xb_BadValue
  have bI_BadValue := FI_BadValue.binds (ps := ["self", "text"]) fun _ _ _ _ _ _ us hl => match us, hl with | [_, _], _ => rfl
  exact ⟨⟨f0, _, F0, PySem.W.mg_of X G a0, b0, f1, _, F1, PySem.W.mg_of X G a1, b1, f2, _, F2, PySem.W.mg_of X G a2, b2, f3, _, F3, PySem.W.mg_of X G a3, b3, f4, _, F4, PySem.W.mg_of X G a4, b4, f5, _, F5, PySem.W.mg_of X G a5, b5, f6, _, F6, PySem.W.mg_of X G a6, b6, f7, _, F7, PySem.W.mg_of X G a7, b7, f8, _, F8, PySem.W.mg_of X G a8, b8, f9, _, F9, PySem.W.mg_of X G a9, b9, f10, _, F10, PySem.W.mg_of X G a10, b10, f11, _, F11, PySem.W.mg_of X G a11, b11, f12, _, F12, PySem.W.mg_of X G a12, b12, f13, _, F13, PySem.W.mg_of X G a13, b13, f14, _, F14, PySem.W.mg_of X G a14, b14, f15, _, F15, PySem.W.mg_of X G a15, b15, f16, _, F16, PySem.W.mg_of X G a16, b16, f17, _, F17, PySem.W.mg_of X G a17, b17, PySem.W.mg_none_of X G z_ValueError, PySem.W.mg_none_of X G z_bool, PySem.W.mg_none_of X G z_int, PySem.W.mg_none_of X G z_isinstance, PySem.W.mg_none_of X G z_len, PySem.W.mg_none_of X G z_list, PySem.W.mg_none_of X G z_min, PySem.W.mg_none_of X G z_range, PySem.W.mg_none_of X G z_str, PySem.W.mg_none_of X G z_tuple, _, PySem.W.mg_of X G y_DIGITS, _, PySem.W.mg_of X G y_MOST_INDEXES, A_BadCommand, PySem.W.mg_of X G x_BadCommand, A_BadPattern, PySem.W.mg_of X G x_BadPattern, A_BadValue, PySem.W.mg_of X G x_BadValue, A_LaidError, PySem.W.mg_of X G x_LaidError, ⟨⟨_, _, _, _, _, _, _, _, _, _, _, _, _, _, _, X1_BadValue, X2_BadValue⟩, X3_BadValue, X4_BadValue, X5_BadValue, X6_BadValue⟩, fI_BadValue, _, X7_BadValue, X8_BadValue, FI_BadValue, bI_BadValue, Y0_BadValue, ⟨Xc_BadValue, Xd_BadValue, X4_BadValue, Xe_BadValue⟩, ⟨Xc_BadValue, Xd_BadValue, X4_BadValue, Xe_BadValue, Xf_BadValue, Xg_BadValue, Xh_BadValue, Xi_BadValue⟩, E_BadValue_BadValue, Q_BadValue_BadCommand, Q_BadValue_BadPattern, Q_BadValue_LaidError, Q_BadValue_ValueError⟩, rfl, rfl⟩

def spLaw (K : PySem.W.Frag) : Sp := fun vs H Q _ => ∃ (a : Addr) (ns : List Int), vs = [.ref a] ∧ SqL K H a (ns.map V.int) ∧ ns.length ≤ 63 ∧ ∀ H', Q (.bl true) H'
theorem ok_end {P : Program} {w : World} {K : PySem.W.Frag} {mg : Str → Option Value} {base : Heap} (T : Txt K mg) : FnOk P w K mg base (L2.CX P w) 6 T.f_law T.fd_law ["_law_script"] (spLaw K) := FnOk.imp (ok_law T) fun vs H Q E ⟨a, ns, e, hS, hl, k⟩ => by
  subst e
  exact law_sp (law_true ns hl) hS k
theorem all_mk {l : PySem.W.OpenLaw} {w : World} {K : PySem.W.Frag} {h : Heap} {mg : Str → Option Value} {fa : Addr} (X : K.In h) (G : h.Ns mainGlobals mg) (hfa : mg "law" = some (.ref fa))
    {f0 : Addr} {oc0 kV0 dc0 pm0 cd0 ct0 : Value} {od0 an0 : Option Addr} {sl0 : Array (Option Value)}
    {f1 : Addr} {oc1 kV1 dc1 pm1 cd1 ct1 : Value} {od1 an1 : Option Addr} {sl1 : Array (Option Value)}
    {f2 : Addr} {oc2 kV2 dc2 pm2 cd2 ct2 : Value} {od2 an2 : Option Addr} {sl2 : Array (Option Value)}
    {f3 : Addr} {oc3 kV3 dc3 pm3 cd3 ct3 : Value} {od3 an3 : Option Addr} {sl3 : Array (Option Value)}
    {f4 : Addr} {oc4 kV4 dc4 pm4 cd4 ct4 : Value} {od4 an4 : Option Addr} {sl4 : Array (Option Value)}
    {f5 : Addr} {oc5 kV5 dc5 pm5 cd5 ct5 : Value} {od5 an5 : Option Addr} {sl5 : Array (Option Value)}
    {f6 : Addr} {oc6 kV6 dc6 pm6 cd6 ct6 : Value} {od6 an6 : Option Addr} {sl6 : Array (Option Value)}
    {f7 : Addr} {oc7 kV7 dc7 pm7 cd7 ct7 : Value} {od7 an7 : Option Addr} {sl7 : Array (Option Value)}
    {f8 : Addr} {oc8 kV8 dc8 pm8 cd8 ct8 : Value} {od8 an8 : Option Addr} {sl8 : Array (Option Value)}
    {f9 : Addr} {oc9 kV9 dc9 pm9 cd9 ct9 : Value} {od9 an9 : Option Addr} {sl9 : Array (Option Value)}
    {f10 : Addr} {oc10 kV10 dc10 pm10 cd10 ct10 : Value} {od10 an10 : Option Addr} {sl10 : Array (Option Value)}
    {f11 : Addr} {oc11 kV11 dc11 pm11 cd11 ct11 : Value} {od11 an11 : Option Addr} {sl11 : Array (Option Value)}
    {f12 : Addr} {oc12 kV12 dc12 pm12 cd12 ct12 : Value} {od12 an12 : Option Addr} {sl12 : Array (Option Value)}
    {f13 : Addr} {oc13 kV13 dc13 pm13 cd13 ct13 : Value} {od13 an13 : Option Addr} {sl13 : Array (Option Value)}
    {f14 : Addr} {oc14 kV14 dc14 pm14 cd14 ct14 : Value} {od14 an14 : Option Addr} {sl14 : Array (Option Value)}
    {f15 : Addr} {oc15 kV15 dc15 pm15 cd15 ct15 : Value} {od15 an15 : Option Addr} {sl15 : Array (Option Value)}
    {f16 : Addr} {oc16 kV16 dc16 pm16 cd16 ct16 : Value} {od16 an16 : Option Addr} {sl16 : Array (Option Value)}
    {f17 : Addr} {oc17 kV17 dc17 pm17 cd17 ct17 : Value} {od17 an17 : Option Addr} {sl17 : Array (Option Value)}
    {t_DIGITS : Tok}
    {t_MOST_INDEXES : Tok}
    {A_BadCommand : Addr}
    {A_BadPattern : Addr}
    {A_BadValue : Addr}
    {A_LaidError : Addr}
    {nm_BadValue qq_BadValue : Str} {N_BadValue fI_BadValue : Addr} {bs_BadValue bm_BadValue : List Value} {sn_BadValue : List Str} {sb_BadValue : List Value} {ab_BadValue : Bool} {co_BadValue : Option Bool} {dd_BadValue od_BadValue an_BadValue : Option Addr} {m0_BadValue m1_BadValue m2_BadValue m3_BadValue m5_BadValue : Option Value} {oc_BadValue kV_BadValue dc_BadValue pm_BadValue cd_BadValue ct_BadValue : Value} {sl_BadValue : Array (Option Value)}
    (a0 : PySem.W.nsIn K mainGlobals "digits_value" = some (some (.ref f0))) (l0 : K.lookup f0 = some ⟨oc0, od0, .func (PySem.W.fnOf "digits_value" "digits_value" (defArgs s_digits_value) (defBody s_digits_value) (defScope s_digits_value) .none kV0 dc0 pm0 an0 cd0 ct0), sl0⟩) (c0 : PySem.W.codeIn K cd0 "digits_value" = true) (k0 : PySem.W.keepIn K (.ref f0) = true)
    (a1 : PySem.W.nsIn K mainGlobals "write_place" = some (some (.ref f1))) (l1 : K.lookup f1 = some ⟨oc1, od1, .func (PySem.W.fnOf "write_place" "write_place" (defArgs s_write_place) (defBody s_write_place) (defScope s_write_place) .none kV1 dc1 pm1 an1 cd1 ct1), sl1⟩) (c1 : PySem.W.codeIn K cd1 "write_place" = true) (k1 : PySem.W.keepIn K (.ref f1) = true)
    (a2 : PySem.W.nsIn K mainGlobals "read_place" = some (some (.ref f2))) (l2 : K.lookup f2 = some ⟨oc2, od2, .func (PySem.W.fnOf "read_place" "read_place" (defArgs s_read_place) (defBody s_read_place) (defScope s_read_place) .none kV2 dc2 pm2 an2 cd2 ct2), sl2⟩) (c2 : PySem.W.codeIn K cd2 "read_place" = true) (k2 : PySem.W.keepIn K (.ref f2) = true)
    (a3 : PySem.W.nsIn K mainGlobals "write_laying" = some (some (.ref f3))) (l3 : K.lookup f3 = some ⟨oc3, od3, .func (PySem.W.fnOf "write_laying" "write_laying" (defArgs s_write_laying) (defBody s_write_laying) (defScope s_write_laying) .none kV3 dc3 pm3 an3 cd3 ct3), sl3⟩) (c3 : PySem.W.codeIn K cd3 "write_laying" = true) (k3 : PySem.W.keepIn K (.ref f3) = true)
    (a4 : PySem.W.nsIn K mainGlobals "_law_cell" = some (some (.ref f4))) (l4 : K.lookup f4 = some ⟨oc4, od4, .func (PySem.W.fnOf "_law_cell" "_law_cell" (defArgs s_l_cell) (defBody s_l_cell) (defScope s_l_cell) .none kV4 dc4 pm4 an4 cd4 ct4), sl4⟩) (c4 : PySem.W.codeIn K cd4 "_law_cell" = true) (k4 : PySem.W.keepIn K (.ref f4) = true)
    (a5 : PySem.W.nsIn K mainGlobals "_law_row" = some (some (.ref f5))) (l5 : K.lookup f5 = some ⟨oc5, od5, .func (PySem.W.fnOf "_law_row" "_law_row" (defArgs s_l_row) (defBody s_l_row) (defScope s_l_row) .none kV5 dc5 pm5 an5 cd5 ct5), sl5⟩) (c5 : PySem.W.codeIn K cd5 "_law_row" = true) (k5 : PySem.W.keepIn K (.ref f5) = true)
    (a6 : PySem.W.nsIn K mainGlobals "_law_same" = some (some (.ref f6))) (l6 : K.lookup f6 = some ⟨oc6, od6, .func (PySem.W.fnOf "_law_same" "_law_same" (defArgs s_l_same) (defBody s_l_same) (defScope s_l_same) .none kV6 dc6 pm6 an6 cd6 ct6), sl6⟩) (c6 : PySem.W.codeIn K cd6 "_law_same" = true) (k6 : PySem.W.keepIn K (.ref f6) = true)
    (a7 : PySem.W.nsIn K mainGlobals "_law_index" = some (some (.ref f7))) (l7 : K.lookup f7 = some ⟨oc7, od7, .func (PySem.W.fnOf "_law_index" "_law_index" (defArgs s_l_index) (defBody s_l_index) (defScope s_l_index) .none kV7 dc7 pm7 an7 cd7 ct7), sl7⟩) (c7 : PySem.W.codeIn K cd7 "_law_index" = true) (k7 : PySem.W.keepIn K (.ref f7) = true)
    (a8 : PySem.W.nsIn K mainGlobals "_law_drawn" = some (some (.ref f8))) (l8 : K.lookup f8 = some ⟨oc8, od8, .func (PySem.W.fnOf "_law_drawn" "_law_drawn" (defArgs s_l_drawn) (defBody s_l_drawn) (defScope s_l_drawn) .none kV8 dc8 pm8 an8 cd8 ct8), sl8⟩) (c8 : PySem.W.codeIn K cd8 "_law_drawn" = true) (k8 : PySem.W.keepIn K (.ref f8) = true)
    (a9 : PySem.W.nsIn K mainGlobals "_law_written" = some (some (.ref f9))) (l9 : K.lookup f9 = some ⟨oc9, od9, .func (PySem.W.fnOf "_law_written" "_law_written" (defArgs s_l_written) (defBody s_l_written) (defScope s_l_written) .none kV9 dc9 pm9 an9 cd9 ct9), sl9⟩) (c9 : PySem.W.codeIn K cd9 "_law_written" = true) (k9 : PySem.W.keepIn K (.ref f9) = true)
    (a10 : PySem.W.nsIn K mainGlobals "_law_place" = some (some (.ref f10))) (l10 : K.lookup f10 = some ⟨oc10, od10, .func (PySem.W.fnOf "_law_place" "_law_place" (defArgs s_l_place) (defBody s_l_place) (defScope s_l_place) .none kV10 dc10 pm10 an10 cd10 ct10), sl10⟩) (c10 : PySem.W.codeIn K cd10 "_law_place" = true) (k10 : PySem.W.keepIn K (.ref f10) = true)
    (a11 : PySem.W.nsIn K mainGlobals "_law_due" = some (some (.ref f11))) (l11 : K.lookup f11 = some ⟨oc11, od11, .func (PySem.W.fnOf "_law_due" "_law_due" (defArgs s_l_due) (defBody s_l_due) (defScope s_l_due) .none kV11 dc11 pm11 an11 cd11 ct11), sl11⟩) (c11 : PySem.W.codeIn K cd11 "_law_due" = true) (k11 : PySem.W.keepIn K (.ref f11) = true)
    (a12 : PySem.W.nsIn K mainGlobals "_law_read" = some (some (.ref f12))) (l12 : K.lookup f12 = some ⟨oc12, od12, .func (PySem.W.fnOf "_law_read" "_law_read" (defArgs s_l_read) (defBody s_l_read) (defScope s_l_read) .none kV12 dc12 pm12 an12 cd12 ct12), sl12⟩) (c12 : PySem.W.codeIn K cd12 "_law_read" = true) (k12 : PySem.W.keepIn K (.ref f12) = true)
    (a13 : PySem.W.nsIn K mainGlobals "_law_spoilt" = some (some (.ref f13))) (l13 : K.lookup f13 = some ⟨oc13, od13, .func (PySem.W.fnOf "_law_spoilt" "_law_spoilt" (defArgs s_l_spoilt) (defBody s_l_spoilt) (defScope s_l_spoilt) .none kV13 dc13 pm13 an13 cd13 ct13), sl13⟩) (c13 : PySem.W.codeIn K cd13 "_law_spoilt" = true) (k13 : PySem.W.keepIn K (.ref f13) = true)
    (a14 : PySem.W.nsIn K mainGlobals "_law_odd" = some (some (.ref f14))) (l14 : K.lookup f14 = some ⟨oc14, od14, .func (PySem.W.fnOf "_law_odd" "_law_odd" (defArgs s_l_odd) (defBody s_l_odd) (defScope s_l_odd) .none kV14 dc14 pm14 an14 cd14 ct14), sl14⟩) (c14 : PySem.W.codeIn K cd14 "_law_odd" = true) (k14 : PySem.W.keepIn K (.ref f14) = true)
    (a15 : PySem.W.nsIn K mainGlobals "_law_laying" = some (some (.ref f15))) (l15 : K.lookup f15 = some ⟨oc15, od15, .func (PySem.W.fnOf "_law_laying" "_law_laying" (defArgs s_l_laying) (defBody s_l_laying) (defScope s_l_laying) .none kV15 dc15 pm15 an15 cd15 ct15), sl15⟩) (c15 : PySem.W.codeIn K cd15 "_law_laying" = true) (k15 : PySem.W.keepIn K (.ref f15) = true)
    (a16 : PySem.W.nsIn K mainGlobals "_law_lines" = some (some (.ref f16))) (l16 : K.lookup f16 = some ⟨oc16, od16, .func (PySem.W.fnOf "_law_lines" "_law_lines" (defArgs s_l_lines) (defBody s_l_lines) (defScope s_l_lines) .none kV16 dc16 pm16 an16 cd16 ct16), sl16⟩) (c16 : PySem.W.codeIn K cd16 "_law_lines" = true) (k16 : PySem.W.keepIn K (.ref f16) = true)
    (a17 : PySem.W.nsIn K mainGlobals "law" = some (some (.ref f17))) (l17 : K.lookup f17 = some ⟨oc17, od17, .func (PySem.W.fnOf "law" "law" (defArgs s_law) (defBody s_law) (defScope s_law) .none kV17 dc17 pm17 an17 cd17 ct17), sl17⟩) (c17 : PySem.W.codeIn K cd17 "law" = true) (k17 : PySem.W.keepIn K (.ref f17) = true)
    (z_ValueError : PySem.W.nsIn K mainGlobals "ValueError" = some none)
    (z_bool : PySem.W.nsIn K mainGlobals "bool" = some none)
    (z_int : PySem.W.nsIn K mainGlobals "int" = some none)
    (z_isinstance : PySem.W.nsIn K mainGlobals "isinstance" = some none)
    (z_len : PySem.W.nsIn K mainGlobals "len" = some none)
    (z_list : PySem.W.nsIn K mainGlobals "list" = some none)
    (z_min : PySem.W.nsIn K mainGlobals "min" = some none)
    (z_range : PySem.W.nsIn K mainGlobals "range" = some none)
    (z_str : PySem.W.nsIn K mainGlobals "str" = some none)
    (z_tuple : PySem.W.nsIn K mainGlobals "tuple" = some none)
    (y_DIGITS : PySem.W.nsIn K mainGlobals "DIGITS" = some (some (.str "0123456789" t_DIGITS)))
    (y_MOST_INDEXES : PySem.W.nsIn K mainGlobals "MOST_INDEXES" = some (some (.int 12 t_MOST_INDEXES)))
    (x_BadCommand : PySem.W.nsIn K mainGlobals "BadCommand" = some (some (.ref A_BadCommand)))
    (x_BadPattern : PySem.W.nsIn K mainGlobals "BadPattern" = some (some (.ref A_BadPattern)))
    (x_BadValue : PySem.W.nsIn K mainGlobals "BadValue" = some (some (.ref A_BadValue)))
    (x_LaidError : PySem.W.nsIn K mainGlobals "LaidError" = some (some (.ref A_LaidError)))
    (X1_BadValue : K.lookup A_BadValue = some (excClassObj nm_BadValue qq_BadValue A_BadValue N_BadValue bs_BadValue bm_BadValue true sn_BadValue sb_BadValue ab_BadValue co_BadValue dd_BadValue m0_BadValue m1_BadValue m2_BadValue m3_BadValue m5_BadValue "ValueError.__new__")) (X2_BadValue : PySem.HandSPX.refsVE bm_BadValue = true)
    (X3_BadValue : PySem.W.findIn K (.ref A_BadValue) "__setattr__" = some (some (.builtin "object.__setattr__"))) (X4_BadValue : PySem.W.subIn K (.ref A_BadValue) (.type "BaseException") = some true) (X5_BadValue : PySem.W.typeIn K (.ref A_BadValue) = some (.type "type")) (X6_BadValue : PySem.W.keepIn K (.ref A_BadValue) = true)
    (X7_BadValue : PySem.W.findIn K (.ref A_BadValue) "__init__" = some (some (.ref fI_BadValue))) (X8_BadValue : PySem.W.typeIn K (.ref fI_BadValue) = some (.type "function")) (X9_BadValue : K.lookup fI_BadValue = some ⟨oc_BadValue, od_BadValue, .func (PySem.W.fnOf "__init__" "BadValue.__init__" (defArgs s_BadValue) (defBody s_BadValue) (defScope s_BadValue) .none kV_BadValue dc_BadValue pm_BadValue an_BadValue cd_BadValue ct_BadValue), sl_BadValue⟩) (Xa_BadValue : PySem.W.codeIn K cd_BadValue "BadValue.__init__" = true) (Xb_BadValue : PySem.W.keepIn K (.ref fI_BadValue) = true)
    (Y0_BadValue : PySem.W.findIn K (.ref A_BadValue) "text" = some none)
    (Xc_BadValue : PySem.W.findIn K (.ref A_BadValue) "__getattribute__" = some (some (.builtin "BaseException.__getattribute__"))) (Xd_BadValue : PySem.W.findIn K (.ref A_BadValue) "__getattr__" = some none) (Xe_BadValue : PySem.W.hasDictIn K A_BadValue = true)
    (Xf_BadValue : PySem.W.findIn K (.ref A_BadValue) "__class__" = some (some (.builtin "object.__class__"))) (Xg_BadValue : PySem.W.specialIn K (.builtin "object.__class__") "__get__" = some (some (.builtin "getset_descriptor.__get__"))) (Xh_BadValue : PySem.W.takesIn K (.builtin "object.__class__") = some true) (Xi_BadValue : PySem.W.mroIn K A_BadValue (.type "object") = some true)
    (E_BadValue_BadValue : PySem.W.exmOne K (.ref A_BadValue) (.ref A_BadValue) = some true)
    (Q_BadValue_BadCommand : PySem.W.kitOne K (.ref A_BadValue) (.ref A_BadCommand) = some false)
    (Q_BadValue_BadPattern : PySem.W.kitOne K (.ref A_BadValue) (.ref A_BadPattern) = some false)
    (Q_BadValue_LaidError : PySem.W.kitOne K (.ref A_BadValue) (.ref A_LaidError) = some true)
    (Q_BadValue_ValueError : PySem.W.kitOne K (.ref A_BadValue) (.type "ValueError") = some true) :
    ∃ fd : FuncData, (∀ (s : Shared) (v : Value), BindsTo s fd ⟨[v], []⟩ [("_law_script", v)]) ∧ ∀ base : Heap, K.In base → base.Ns mainGlobals mg → FnOk l.prog w K mg base (L2.CX l.prog w) 6 fa fd ["_law_script"] (spLaw K) := by
  have e := hfa.symm.trans (PySem.W.mg_of X G a17)
  cases e
  obtain ⟨T, e1, e2⟩ := txt_mk X G a0 l0 c0 k0 a1 l1 c1 k1 a2 l2 c2 k2 a3 l3 c3 k3 a4 l4 c4 k4 a5 l5 c5 k5 a6 l6 c6 k6 a7 l7 c7 k7 a8 l8 c8 k8 a9 l9 c9 k9 a10 l10 c10 k10 a11 l11 c11 k11 a12 l12 c12 k12 a13 l13 c13 k13 a14 l14 c14 k14 a15 l15 c15 k15 a16 l16 c16 k16 a17 l17 c17 k17 z_ValueError z_bool z_int z_isinstance z_len z_list z_min z_range z_str z_tuple y_DIGITS y_MOST_INDEXES x_BadCommand x_BadPattern x_BadValue x_LaidError X1_BadValue X2_BadValue X3_BadValue X4_BadValue X5_BadValue X6_BadValue X7_BadValue X8_BadValue X9_BadValue Xa_BadValue Xb_BadValue Y0_BadValue Xc_BadValue Xd_BadValue Xe_BadValue Xf_BadValue Xg_BadValue Xh_BadValue Xi_BadValue E_BadValue_BadValue Q_BadValue_BadCommand Q_BadValue_BadPattern Q_BadValue_LaidError Q_BadValue_ValueError
  refine ⟨PySem.W.fnOf "law" "law" (defArgs s_law) (defBody s_law) (defScope s_law) .none kV17 dc17 pm17 an17 cd17 ct17, fun s v => .of_eq rfl, fun base _ _ => ?_⟩
  have z := ok_end (P := l.prog) (w := w) (base := base) T
  rw [e1, e2] at z
  exact z
end Lk

end S_P_end
section S_P_top
set_option Elab.async false
set_option linter.all false
open PySem PySem.W PyProof.Rows
set_option maxRecDepth 100000 in
set_option maxHeartbeats 0 in
theorem PySem.Challenge.cw_laidforall_k74_places_and_layings_writte_holds : PySem.Challenge.rw_laidforall_k74_places_and_layings_writte.Holds := by
  w_on; o_law; k_head; (case hw => w_witness2)
  k_fill
  refine L2.walk_of (l := PySem.Challenge.rw_laidforall_k74_places_and_layings_writte) (n := 63) (k := 6) (x := "_law_script") (CX := fun w => L2.CX PySem.Challenge.rw_laidforall_k74_places_and_layings_writte.prog w) (sp := fun w => Lk.spLaw _) rfl (by decide) rfl ⟨rfl, by decide, by decide⟩ (fun w h Y => PySem.W.kIn_of Y) ?F (fun _ _ a ns hl _ hS => ⟨a, ns, rfl, hS, hl, fun _ => rfl⟩) (fun _ _ _ _ _ h => Dx.cx_never h)
  case F =>
    intro w mg fa h KX G hmg
    refine' Lk.all_mk KX G hmg ?a0 ?l0 ?c0 ?k0 ?a1 ?l1 ?c1 ?k1 ?a2 ?l2 ?c2 ?k2 ?a3 ?l3 ?c3 ?k3 ?a4 ?l4 ?c4 ?k4 ?a5 ?l5 ?c5 ?k5 ?a6 ?l6 ?c6 ?k6 ?a7 ?l7 ?c7 ?k7 ?a8 ?l8 ?c8 ?k8 ?a9 ?l9 ?c9 ?k9 ?a10 ?l10 ?c10 ?k10 ?a11 ?l11 ?c11 ?k11 ?a12 ?l12 ?c12 ?k12 ?a13 ?l13 ?c13 ?k13 ?a14 ?l14 ?c14 ?k14 ?a15 ?l15 ?c15 ?k15 ?a16 ?l16 ?c16 ?k16 ?a17 ?l17 ?c17 ?k17 ?z_ValueError ?z_bool ?z_int ?z_isinstance ?z_len ?z_list ?z_min ?z_range ?z_str ?z_tuple ?y_DIGITS ?y_MOST_INDEXES ?x_BadCommand ?x_BadPattern ?x_BadValue ?x_LaidError ?X1_BadValue ?X2_BadValue ?X3_BadValue ?X4_BadValue ?X5_BadValue ?X6_BadValue ?X7_BadValue ?X8_BadValue ?X9_BadValue ?Xa_BadValue ?Xb_BadValue ?Y0_BadValue ?Xc_BadValue ?Xd_BadValue ?Xe_BadValue ?Xf_BadValue ?Xg_BadValue ?Xh_BadValue ?Xi_BadValue ?E_BadValue_BadValue ?Q_BadValue_BadCommand ?Q_BadValue_BadPattern ?Q_BadValue_LaidError ?Q_BadValue_ValueError
    (case a0 => k_is)
    (case l0 => k_is)
    (case c0 => k_is)
    (case k0 => k_is)
    (case a1 => k_is)
    (case l1 => k_is)
    (case c1 => k_is)
    (case k1 => k_is)
    (case a2 => k_is)
    (case l2 => k_is)
    (case c2 => k_is)
    (case k2 => k_is)
    (case a3 => k_is)
    (case l3 => k_is)
    (case c3 => k_is)
    (case k3 => k_is)
    (case a4 => k_is)
    (case l4 => k_is)
    (case c4 => k_is)
    (case k4 => k_is)
    (case a5 => k_is)
    (case l5 => k_is)
    (case c5 => k_is)
    (case k5 => k_is)
    (case a6 => k_is)
    (case l6 => k_is)
    (case c6 => k_is)
    (case k6 => k_is)
    (case a7 => k_is)
    (case l7 => k_is)
    (case c7 => k_is)
    (case k7 => k_is)
    (case a8 => k_is)
    (case l8 => k_is)
    (case c8 => k_is)
    (case k8 => k_is)
    (case a9 => k_is)
    (case l9 => k_is)
    (case c9 => k_is)
    (case k9 => k_is)
    (case a10 => k_is)
    (case l10 => k_is)
    (case c10 => k_is)
    (case k10 => k_is)
    (case a11 => k_is)
    (case l11 => k_is)
    (case c11 => k_is)
    (case k11 => k_is)
    (case a12 => k_is)
    (case l12 => k_is)
    (case c12 => k_is)
    (case k12 => k_is)
    (case a13 => k_is)
    (case l13 => k_is)
    (case c13 => k_is)
    (case k13 => k_is)
    (case a14 => k_is)
    (case l14 => k_is)
    (case c14 => k_is)
    (case k14 => k_is)
    (case a15 => k_is)
    (case l15 => k_is)
    (case c15 => k_is)
    (case k15 => k_is)
    (case a16 => k_is)
    (case l16 => k_is)
    (case c16 => k_is)
    (case k16 => k_is)
    (case a17 => k_is)
    (case l17 => k_is)
    (case c17 => k_is)
    (case k17 => k_is)
    (case z_ValueError => k_is)
    (case z_bool => k_is)
    (case z_int => k_is)
    (case z_isinstance => k_is)
    (case z_len => k_is)
    (case z_list => k_is)
    (case z_min => k_is)
    (case z_range => k_is)
    (case z_str => k_is)
    (case z_tuple => k_is)
    (case y_DIGITS => k_is)
    (case y_MOST_INDEXES => k_is)
    (case x_BadCommand => k_is)
    (case x_BadPattern => k_is)
    (case x_BadValue => k_is)
    (case x_LaidError => k_is)
    (case X1_BadValue => k_is)
    (case X2_BadValue => decide +kernel)
    (case X3_BadValue => k_is)
    (case X4_BadValue => k_is)
    (case X5_BadValue => k_is)
    (case X6_BadValue => k_is)
    (case X7_BadValue => k_is)
    (case X8_BadValue => k_is)
    (case X9_BadValue => k_is)
    (case Xa_BadValue => k_is)
    (case Xb_BadValue => k_is)
    (case Y0_BadValue => k_is)
    (case Xc_BadValue => k_is)
    (case Xd_BadValue => k_is)
    (case Xe_BadValue => k_is)
    (case Xf_BadValue => k_is)
    (case Xg_BadValue => k_is)
    (case Xh_BadValue => k_is)
    (case Xi_BadValue => k_is)
    (case E_BadValue_BadValue => first | k_is | rfl | decide +kernel)
    (case Q_BadValue_BadCommand => first | k_is | rfl | decide +kernel)
    (case Q_BadValue_BadPattern => first | k_is | rfl | decide +kernel)
    (case Q_BadValue_LaidError => first | k_is | rfl | decide +kernel)
    (case Q_BadValue_ValueError => first | k_is | rfl | decide +kernel)

end S_P_top
