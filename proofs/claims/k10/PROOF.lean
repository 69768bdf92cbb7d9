import PyProof.Rows.All
import Wide.All
import OpenK.AllK
import Wide.FinOn
import HandS.ForMost
import HandS.ForExc
import HandS.Evl
import HandS.Walk
import HandS.IsInst
import HandS.TupAny
import HandS.Deep
import HandS.Flow
import HandS.Wide
import HandS.Text
import HandS.CallSlots
import HandS.ExcInit
import HandS.ExcField
import HandS.ExcIs
import KE.KExcIs
import HandS.FStr
import HandS.Iter
import HandS.Zip0
import PyProof.EnumMake
import PyProof.Draws
import HandS.Style
import HandS.ClsMeth
import KE.GoesMore
import KE.GoesZip
import PyProof.StrOps2
import PyProof.Rows.MatchSeqLen
import KE.KUnpack
import HandS.NoneIn
import HandS.More
import HandS.Star
import HandS.SlotsOwn
import HandS.OwnIter
import HandS.IterVal
import KE.KCallOwn
import KE.KOwnIter
import HandS.TupLen
import HandS.Property
import HandS.Conv
import HandS.SortRule
import KE.KDictDisplayH
import HandS.Defaults
import HandS.TryOnly
import HandS.SortInts
import HandS.SortOrd
import HandS.DictComp
import KE.DataMinMax
import KE.KDictCopyH
import HandS.ListItems
import PyProof.ListStr
import HandS.HotCalls
import PyProof.InstNe
import HandS.MakeKwOnly
import KE.KTupSum
import HandS.TryMany
import KE.KEqDict
import PyProof.EqKinds
import HandS.RaiseMore
import PySem.Challenge.RW_laidforall_k10_patterns_read
set_option Elab.async false
set_option linter.all false
set_option maxRecDepth 100000
section S_DxA
set_option Elab.async false
set_option linter.all false
set_option maxRecDepth 100000
namespace Dx
open PySem L2
/-- data: what a value stands for, whatever its address -/
inductive D where
  | non
  | bl (b : Bool)
  | int (i : Int)
  | str (s : Str)
  | lst (xs : List D)
  | fz (xs : List D)
  | tup (xs : List D)
  | kt (xs : List D)
  | dk (ks : List Key) (vs : List D)
  | dt (ks : List (List Key)) (vs : List D)
  | obj (c : Str) (ns : List Str) (vs : List D)
  | own (k : Nat)
  | st (k : Nat) (rows : List (List D))
/-- where the classes of the text stand -/
abbrev CM := Str → Option Addr
/-- H' knows all that H knows -/
def Ex (H H' : Hp) : Prop := ∀ a o, H a = some o → H' a = some o
theorem Ex.refl {H : Hp} : Ex H H := fun _ _ h => h
theorem Ex.trans {H H1 H2 : Hp} (a : Ex H H1) (b : Ex H1 H2) : Ex H H2 := fun x o h => b x o (a x o h)
theorem Ex.nn {H H' : Hp} (e : Ex H H') {p : Addr} (h : H' p = none) : H p = none := by
  cases h1 : H p with
  | none => rfl
  | some o => rw [e p o h1] at h; cases h
theorem Ex.new {H : Hp} {p : Addr} {o : HO} (h : H p = none) : Ex H (upd H p o) := fun a u e => by
  rw [upd_ne (ne_of_none e h)]; exact e
theorem Ex.put {H H' : Hp} {p : Addr} {o : HO} (e : Ex H H') (h : H p = none) : Ex H (upd H' p o) := fun a u ha => by
  rw [upd_ne (ne_of_none ha h)]; exact e a u ha
theorem Ex.both {S H : Hp} {p : Addr} {o : HO} (e : Ex S H) : Ex (upd S p o) (upd H p o) := fun a u ha => by
  by_cases h : a = p
  · subst h; rw [upd_same] at ha ⊢; exact ha
  · rw [upd_ne h] at ha ⊢; exact e a u ha
theorem Ex.rd {H H' : Hp} {a : Addr} {u : HO} (e : Ex H H') (h : Rd H a u) : Rd H' a u := by
  rcases h with h | ⟨o, h⟩
  · exact .inl (e a _ h)
  · exact .inr ⟨o, e a _ h⟩
theorem Ex.l {K : PySem.W.Frag} {H H' : Hp} {a : Addr} {xs : List V} (e : Ex H H') (h : SqL K H a xs) : SqL K H' a xs := by
  rcases h with h | h
  · exact .inl (e.rd h)
  · exact .inr h
theorem Ex.t {K : PySem.W.Frag} {H H' : Hp} {a : Addr} {xs : List V} (e : Ex H H') (h : SqT K H a xs) : SqT K H' a xs := by
  rcases h with h | h
  · exact .inl (e.rd h)
  · exact .inr h
mutual
/-- the value v, at the heap S, stands for the data -/
inductive Rp (K : PySem.W.Frag) (cm : CM) (S : Hp) : V → D → Prop
  | non : Rp K cm S .non .non
  | bl (b : Bool) : Rp K cm S (.bl b) (.bl b)
  | int (i : Int) : Rp K cm S (.int i) (.int i)
  | str (x : Str) : Rp K cm S (.str x) (.str x)
  | lst {a : Addr} {xs : List V} {ds : List D} : S a = some (.lst xs) → RpA K cm S xs ds → Rp K cm S (.ref a) (.lst ds)
  | fz {a : Addr} {xs : List V} {ds : List D} : SqL K S a xs → RpA K cm S xs ds → Rp K cm S (.ref a) (.fz ds)
  | tup {a : Addr} {xs : List V} {ds : List D} : S a = some (.tup xs) → RpA K cm S xs ds → Rp K cm S (.ref a) (.tup ds)
  | kt {a : Addr} {xs : List V} {ds : List D} : SqT K S a xs → RpA K cm S xs ds → Rp K cm S (.ref a) (.kt ds)
  | dk {a : Addr} {w : Obj} {kvs : List (Key × V)} {ks : List Key} {ds : List D} : S a = some (.frz w (.dK kvs)) → ks = kvs.map (·.1) → RpA K cm S (kvs.map (·.2)) ds → Rp K cm S (.ref a) (.dk ks ds)
  | dt {a : Addr} {w : Obj} {kvs : List (List Key × V)} {ks : List (List Key)} {ds : List D} : S a = some (.frz w (.dT kvs)) → ks = kvs.map (·.1) → RpA K cm S (kvs.map (·.2)) ds → Rp K cm S (.ref a) (.dt ks ds)
  | obj {a C dx : Addr} {c : Str} {fs : List (Str × V)} {ns : List Str} {ds : List D} : cm c = some C → S a = some (.ins C dx fs) → ns = fs.map (·.1) → RpA K cm S (fs.map (·.2)) ds → Rp K cm S (.ref a) (.obj c ns ds)
inductive RpA (K : PySem.W.Frag) (cm : CM) (S : Hp) : List V → List D → Prop
  | nil : RpA K cm S [] []
  | cons {v : V} {vs : List V} {d : D} {ds : List D} : Rp K cm S v d → RpA K cm S vs ds → RpA K cm S (v :: vs) (d :: ds)
end
section
variable {K : PySem.W.Frag} {cm : CM} {S S' : Hp}
mutual
theorem Rp.mono (e : Ex S S') : ∀ {v : V} {d : D}, Rp K cm S v d → Rp K cm S' v d
  | _, .non, h => by cases h; exact .non
  | _, .bl _, h => by cases h; exact .bl _
  | _, .int _, h => by cases h; exact .int _
  | _, .str _, h => by cases h; exact .str _
  | _, .lst ds, h => by cases h with | lst q r => exact .lst (e _ _ q) (RpA.mono e r)
  | _, .fz ds, h => by cases h with | fz q r => exact .fz (e.l q) (RpA.mono e r)
  | _, .tup ds, h => by cases h with | tup q r => exact .tup (e _ _ q) (RpA.mono e r)
  | _, .kt ds, h => by cases h with | kt q r => exact .kt (e.t q) (RpA.mono e r)
  | _, .dk _ ds, h => by cases h with | dk q k r => exact .dk (e _ _ q) k (RpA.mono e r)
  | _, .dt _ ds, h => by cases h with | dt q k r => exact .dt (e _ _ q) k (RpA.mono e r)
  | _, .obj _ _ ds, h => by cases h with | obj c q k r => exact .obj c (e _ _ q) k (RpA.mono e r)
theorem RpA.mono (e : Ex S S') : ∀ {vs : List V} {ds : List D}, RpA K cm S vs ds → RpA K cm S' vs ds
  | _, [], h => by cases h; exact .nil
  | _, d :: ds, h => by cases h with | cons a r => exact .cons (Rp.mono e a) (RpA.mono e r)
end
theorem RpA.length : ∀ {vs : List V} {ds : List D}, RpA K cm S vs ds → vs.length = ds.length
  | _, _, .nil => rfl
  | _, _, .cons _ r => by simp [RpA.length r]
theorem RpA.get : ∀ {vs : List V} {ds : List D} {i : Nat} {d : D}, RpA K cm S vs ds → ds[i]? = some d → ∃ v, vs[i]? = some v ∧ Rp K cm S v d
  | _, _, _, _, .nil, e => by simp at e
  | _, _, 0, _, .cons h _, e => by simp at e; subst e; exact ⟨_, by simp, h⟩
  | _, _, i + 1, d, .cons _ r, e => by
    obtain ⟨v, h1, h2⟩ := RpA.get (i := i) (d := d) r (by simpa using e)
    exact ⟨v, by simpa using h1, h2⟩
theorem RpA.getV : ∀ {vs : List V} {ds : List D} {i : Nat} {v : V}, RpA K cm S vs ds → vs[i]? = some v → ∃ d, ds[i]? = some d ∧ Rp K cm S v d
  | _, _, _, _, .nil, e => by simp at e
  | _, _, 0, _, .cons h _, e => by simp at e; subst e; exact ⟨_, by simp, h⟩
  | _, _, i + 1, v, .cons _ r, e => by
    obtain ⟨d, h1, h2⟩ := RpA.getV (i := i) (v := v) r (by simpa using e)
    exact ⟨d, by simpa using h1, h2⟩
theorem RpA.app : ∀ {vs us : List V} {ds es : List D}, RpA K cm S vs ds → RpA K cm S us es → RpA K cm S (vs ++ us) (ds ++ es)
  | _, _, _, _, .nil, s => s
  | _, _, _, _, .cons h r, s => .cons h (RpA.app r s)
theorem RpA.one {v : V} {d : D} (h : Rp K cm S v d) : RpA K cm S [v] [d] := .cons h .nil
theorem RpA.take : ∀ {vs : List V} {ds : List D} (n : Nat), RpA K cm S vs ds → RpA K cm S (vs.take n) (ds.take n)
  | _, _, 0, _ => .nil
  | _, _, _ + 1, .nil => .nil
  | _, _, n + 1, .cons h r => .cons h (RpA.take n r)
theorem RpA.drop : ∀ {vs : List V} {ds : List D} (n : Nat), RpA K cm S vs ds → RpA K cm S (vs.drop n) (ds.drop n)
  | _, _, 0, r => r
  | _, _, _ + 1, .nil => .nil
  | _, _, n + 1, .cons _ r => RpA.drop n r
theorem RpA.set {v : V} {d : D} (h : Rp K cm S v d) : ∀ {vs : List V} {ds : List D} (i : Nat), RpA K cm S vs ds → RpA K cm S (vs.set i v) (ds.set i d)
  | _, _, _, .nil => .nil
  | _, _, 0, .cons _ r => .cons h r
  | _, _, i + 1, .cons q r => .cons q (RpA.set h i r)
theorem RpA.reverse : ∀ {vs : List V} {ds : List D}, RpA K cm S vs ds → RpA K cm S vs.reverse ds.reverse
  | _, _, .nil => .nil
  | _, _, .cons h r => by rw [List.reverse_cons, List.reverse_cons]; exact (RpA.reverse r).app (.one h)
end
/-- the content of a mutable object stands for the data, its parts at S -/
inductive RpO (K : PySem.W.Frag) (cm : CM) (S : Hp) : HO → D → Prop
  | lst {xs : List V} {ds : List D} : RpA K cm S xs ds → RpO K cm S (.lst xs) (.lst ds)
  | dk {kvs : List (Key × V)} {ks : List Key} {ds : List D} : ks = kvs.map (·.1) → RpA K cm S (kvs.map (·.2)) ds → RpO K cm S (.dK kvs) (.dk ks ds)
  | dt {kvs : List (List Key × V)} {ks : List (List Key)} {ds : List D} : ks = kvs.map (·.1) → RpA K cm S (kvs.map (·.2)) ds → RpO K cm S (.dT kvs) (.dt ks ds)
  | obj {C dx : Addr} {c : Str} {fs : List (Str × V)} {ns : List Str} {ds : List D} : cm c = some C → ns = fs.map (·.1) → RpA K cm S (fs.map (·.2)) ds → RpO K cm S (.ins C dx fs) (.obj c ns ds)
theorem RpO.mono {K : PySem.W.Frag} {cm : CM} {S S' : Hp} (e : Ex S S') {o : HO} {d : D} (h : RpO K cm S o d) : RpO K cm S' o d := by
  cases h with
  | lst r => exact .lst (r.mono e)
  | dk k r => exact .dk k (r.mono e)
  | dt k r => exact .dt k (r.mono e)
  | obj c k r => exact .obj c k (r.mono e)
def isDct : D → Bool
  | .dk _ _ => true
  | .dt _ _ => true
  | _ => false
theorem RpO.pub {K : PySem.W.Frag} {cm : CM} {S : Hp} {o : HO} {d : D} {p : Addr} (h : RpO K cm S o d) (nd : isDct d = false) (hp : S p = o) : Rp K cm S (.ref p) d := by
  cases h with
  | lst r => exact .lst hp r
  | dk k r => cases nd
  | dt k r => cases nd
  | obj c k r => exact .obj c hp k r
theorem RpO.pubD {K : PySem.W.Frag} {cm : CM} {S : Hp} {o : HO} {d : D} {p : Addr} {w : Obj} (h : RpO K cm S o d) (nd : isDct d = true) (hp : S p = some (.frz w o)) : Rp K cm S (.ref p) d ∧ Mut (some o) := by
  cases h with
  | lst r => cases nd
  | dk k r => exact ⟨.dk hp k r, trivial⟩
  | dt k r => exact ⟨.dt hp k r, trivial⟩
  | obj c k r => cases nd
theorem RpO.mut {K : PySem.W.Frag} {cm : CM} {S : Hp} {o : HO} {d : D} (h : RpO K cm S o d) : Mut (some o) := by
  cases h <;> trivial
/-- not there, or a tuple -/
def Old (o : Option HO) : Prop := o = none ∨ ∃ xs, o = some (.tup xs)
theorem Old.back {H H' : Hp} (e : Ex H H') {a : Addr} (h : Old (H' a)) : Old (H a) := by
  cases q : H a with
  | none => exact .inl rfl
  | some u =>
    rw [e a u q] at h
    rcases h with h | ⟨xs, h⟩
    · cases h
    · cases h; exact .inr ⟨xs, rfl⟩
theorem Old.not {H : Hp} {a : Addr} {o : HO} (h : Old (H a)) (q : H a = some o) : ∃ xs, o = .tup xs := by
  rw [q] at h
  rcases h with h | ⟨xs, h⟩
  · cases h
  · cases h; exact ⟨xs, rfl⟩
/-- S is the part of H that stays; from (S, H) to (S', H') nothing known has changed -/
structure Fwd (S H S' H' : Hp) : Prop where
  s : Ex S S'
  h : Ex H H'
  sub : Ex S' H'
  new : ∀ a o, S' a = some o → S a = none → Old (H a)
theorem Fwd.refl {S H : Hp} (e : Ex S H) : Fwd S H S H := ⟨Ex.refl, Ex.refl, e, fun a o h n => by rw [n] at h; cases h⟩
theorem Fwd.trans {S H S1 H1 S2 H2 : Hp} (a : Fwd S H S1 H1) (b : Fwd S1 H1 S2 H2) : Fwd S H S2 H2 :=
  ⟨a.s.trans b.s, a.h.trans b.h, b.sub, fun p o h n => by
    cases e : S1 p with
    | some u => exact a.new p u e n
    | none => exact (b.new p o h e).back a.h⟩
theorem Fwd.both {S H : Hp} {p : Addr} {o : HO} (e : Ex S H) (n : H p = none) : Fwd S H (upd S p o) (upd H p o) :=
  ⟨Ex.new (e.nn n), Ex.new n, e.both, fun a u h m => by
    by_cases ha : a = p
    · subst ha; exact .inl n
    · rw [upd_ne ha, m] at h; cases h⟩
theorem Fwd.heap {S H : Hp} {p : Addr} {o : HO} (e : Ex S H) (n : H p = none) : Fwd S H S (upd H p o) :=
  ⟨Ex.refl, Ex.new n, e.put (e.nn n), fun a u h m => by rw [m] at h; cases h⟩
/-- a new object known to H' alone becomes one that stays -/
theorem Fwd.pub {S H S' H' : Hp} {p : Addr} {o : HO} (f : Fwd S H S' H') (n : H p = none) (ns : S' p = none) (h : H' p = some o) : Fwd S H (upd S' p o) H' :=
  ⟨f.s.trans (Ex.new ns), f.h, fun a u ha => by
    by_cases hh : a = p
    · subst hh; rw [upd_same] at ha; rw [h]; exact ha
    · rw [upd_ne hh] at ha; exact f.sub a u ha, fun a u ha m => by
    by_cases hh : a = p
    · subst hh; exact .inl n
    · rw [upd_ne hh] at ha; exact f.new a u ha m⟩
inductive Res (α : Type) where
  | ok (a : α)
  | err (c : Str) (ns : List Str) (vs : List D)
  | bad
@[inline] def Res.bind {α β : Type} : Res α → (α → Res β) → Res β
  | .ok a, k => k a
  | .err c ns vs, _ => .err c ns vs
  | .bad, _ => .bad
instance : Monad Res where
  pure := Res.ok
  bind := Res.bind
abbrev Rho := List (Option D)
/-- the end of a statement -/
inductive SR where
  | nx (r : Rho)
  | rt (d : D)
  | bk (r : Rho)
  | ct (r : Rho)
  | er (r : Rho) (c : Str) (ns : List Str) (vs : List D)
  | bad
inductive Ow where
  | v | o | b | w
  | s (pre : List Addr)
  | x (a C dd : Addr)
  | i (a : Addr)
def isO : Ow → Prop
  | .o => True
  | .i _ => True
  | _ => False
structure Cf where
  K : PySem.W.Frag
  cm : CM
  W : WX
  ge : Option (List Ow)
  rm : Bool
/-- a value, or a mutable object read at H whose parts stay -/
def RpB (K : PySem.W.Frag) (cm : CM) (S H : Hp) (v : V) (d : D) : Prop :=
  Rp K cm S v d ∨ ∃ p ho, v = .ref p ∧ H p = some ho ∧ RpO K cm S ho d
section
variable {K : PySem.W.Frag} {cm : CM} {S S' H H' : Hp} {v : V} {d : D}
theorem RpB.mono (h : RpB K cm S H v d) (e : Ex S S') (e' : Ex H H') : RpB K cm S' H' v d := by
  rcases h with h | ⟨p, ho, h1, h2, h3⟩
  · exact .inl (h.mono e)
  · exact .inr ⟨p, ho, h1, e' _ _ h2, h3.mono e⟩
theorem RpB.list {ds : List D} (h : RpB K cm S H v (.lst ds)) (e : Ex S H) : ∃ p xs, v = .ref p ∧ H p = some (.lst xs) ∧ RpA K cm S xs ds := by
  rcases h with h | ⟨p, ho, h1, h2, h3⟩
  · cases h with | lst q r => exact ⟨_, _, rfl, e _ _ q, r⟩
  · cases h3 with | lst r => exact ⟨p, _, h1, h2, r⟩
theorem RpB.int {i : Int} (h : RpB K cm S H v (.int i)) : v = .int i := by
  rcases h with h | ⟨p, ho, h1, h2, h3⟩
  · cases h; rfl
  · cases h3
theorem RpB.bl {b : Bool} (h : RpB K cm S H v (.bl b)) : v = .bl b := by
  rcases h with h | ⟨p, ho, h1, h2, h3⟩
  · cases h; rfl
  · cases h3
theorem RpB.non (h : RpB K cm S H v .non) : v = .non := by
  rcases h with h | ⟨p, ho, h1, h2, h3⟩
  · cases h; rfl
  · cases h3
theorem RpB.str {z : Str} (h : RpB K cm S H v (.str z)) : v = .str z := by
  rcases h with h | ⟨p, ho, h1, h2, h3⟩
  · cases h; rfl
  · cases h3
theorem RpB.tup {ds : List D} (h : RpB K cm S H v (.tup ds)) (e : Ex S H) : ∃ p xs, v = .ref p ∧ SqT K H p xs ∧ RpA K cm S xs ds ∧ S p = some (.tup xs) := by
  rcases h with h | ⟨p, ho, h1, h2, h3⟩
  · cases h with | tup q r => exact ⟨_, _, rfl, .inl (.inl (e _ _ q)), r, q⟩
  · cases h3
theorem RpB.kt {ds : List D} (h : RpB K cm S H v (.kt ds)) (e : Ex S H) : ∃ p xs, v = .ref p ∧ SqT K H p xs ∧ RpA K cm S xs ds ∧ SqT K S p xs := by
  rcases h with h | ⟨p, ho, h1, h2, h3⟩
  · cases h with | kt q r => exact ⟨_, _, rfl, e.t q, r, q⟩
  · cases h3
theorem RpB.fz {ds : List D} (h : RpB K cm S H v (.fz ds)) (e : Ex S H) : ∃ p xs, v = .ref p ∧ SqL K H p xs ∧ RpA K cm S xs ds := by
  rcases h with h | ⟨p, ho, h1, h2, h3⟩
  · cases h with | fz q r => exact ⟨_, _, rfl, e.l q, r⟩
  · cases h3
theorem RpB.dk {ks : List Key} {ds : List D} (h : RpB K cm S H v (.dk ks ds)) (e : Ex S H) : ∃ p kvs, v = .ref p ∧ Rd H p (.dK kvs) ∧ ks = kvs.map (·.1) ∧ RpA K cm S (kvs.map (·.2)) ds := by
  rcases h with h | ⟨p, ho, h1, h2, h3⟩
  · cases h with | dk q k r => exact ⟨_, _, rfl, .inr ⟨_, e _ _ q⟩, k, r⟩
  · cases h3 with | dk k r => exact ⟨p, _, h1, .inl h2, k, r⟩
theorem RpB.dt {ks : List (List Key)} {ds : List D} (h : RpB K cm S H v (.dt ks ds)) (e : Ex S H) : ∃ p kvs, v = .ref p ∧ Rd H p (.dT kvs) ∧ ks = kvs.map (·.1) ∧ RpA K cm S (kvs.map (·.2)) ds := by
  rcases h with h | ⟨p, ho, h1, h2, h3⟩
  · cases h with | dt q k r => exact ⟨_, _, rfl, .inr ⟨_, e _ _ q⟩, k, r⟩
  · cases h3 with | dt k r => exact ⟨p, _, h1, .inl h2, k, r⟩
theorem RpB.obj {n : Str} {ns : List Str} {ds : List D} (h : RpB K cm S H v (.obj n ns ds)) (e : Ex S H) : ∃ p C dx fs, v = .ref p ∧ cm n = some C ∧ H p = some (.ins C dx fs) ∧ ns = fs.map (·.1) ∧ RpA K cm S (fs.map (·.2)) ds := by
  rcases h with h | ⟨p, ho, h1, h2, h3⟩
  · cases h with | obj c q k r => exact ⟨_, _, _, _, rfl, c, e _ _ q, k, r⟩
  · cases h3 with | obj c k r => exact ⟨p, _, _, _, h1, c, h2, k, r⟩
end
/-- a value, or one of the own lists at the places A -/
def RmV (K : PySem.W.Frag) (cm : CM) (A : List Addr) (S : Hp) (v : V) (d : D) : Prop := Rp K cm S v d ∨ ∃ k a, d = .own k ∧ A[k]? = some a ∧ v = .ref a
def RmA (K : PySem.W.Frag) (cm : CM) (A : List Addr) (S : Hp) (vs : List V) (ds : List D) : Prop := vs.length = ds.length ∧ ∀ (i : Nat) v d, vs[i]? = some v → ds[i]? = some d → RmV K cm A S v d
def SlotOk (c : Cf) (H0 S H : Hp) : Ow → V → D → Prop
  | .v, v, d => Rp c.K c.cm S v d
  | .o, v, d => ∃ p ho, v = .ref p ∧ H p = some ho ∧ S p = none ∧ H0 p = none ∧ RpO c.K c.cm S ho d
  | .i a, v, d => v = .ref a ∧ ∃ p ho, v = .ref p ∧ H p = some ho ∧ S p = none ∧ H0 p = none ∧ RpO c.K c.cm S ho d
  | .b, v, d => RpB c.K c.cm S H0 v d
  | .s _, v, d => ∃ k M, d = .st k M
  | .w, v, d => ∃ k, d = .own k
  | .x a C dd, v, d => v = .ref a ∧ ∃ n ns ds fs, d = .obj n ns ds ∧ c.cm n = some C ∧ S dd = some (.xd fs) ∧ ns = fs.map (·.1) ∧ RpA c.K c.cm S (fs.map (·.2)) ds
abbrev kd (G : List Ow) (i : Nat) : Ow := G.getD i .v
/-- the own lists that stand in each other, at the places A -/
structure StoOk (K : PySem.W.Frag) (cm : CM) (H0 : Hp) (G : List Ow) (S H : Hp) (σ : St) (r : Rho) (A : List Addr) : Prop where
  nod : A.Nodup
  out : ∀ a ∈ A, S a = none ∧ H0 a = none ∧ ∃ xs, H a = some (.lst xs)
  own : ∀ i d p, r[i]? = some (some d) → isO (kd G i) → σ[i]? = some (some (.ref p)) → p ∉ A
  st : ∀ i k M P, kd G i = .s P → r[i]? = some (some (.st k M)) → (P <+: A ∧ A.length = M.length) ∧ (∃ a, A[k]? = some a ∧ σ[i]? = some (some (.ref a))) ∧ ∀ (n : Nat) row, M[n]? = some row → ∃ a xs, A[n]? = some a ∧ H a = some (.lst xs) ∧ RmA K cm A S xs row
  al : ∀ i k, kd G i = .w → r[i]? = some (some (.own k)) → ∃ a, A[k]? = some a ∧ σ[i]? = some (some (.ref a))
theorem RmA.mono {K : PySem.W.Frag} {cm : CM} {A : List Addr} {S S' : Hp} {vs : List V} {ds : List D} (h : RmA K cm A S vs ds) (e : Ex S S') : RmA K cm A S' vs ds :=
  ⟨h.1, fun i v d hv hd => (h.2 i v d hv hd).imp (fun z => z.mono e) id⟩
theorem StoOk.sub {K : PySem.W.Frag} {cm : CM} {H0 S H S' H' : Hp} {G G' : List Ow} {σ σ' : St} {r r' : Rho} {A : List Addr} (h : StoOk K cm H0 G S H σ r A) (hS : ∀ a ∈ A, S' a = none) (hH : ∀ a ∈ A, H' a = H a) (eS : Ex S S')
    (ho : ∀ i d p, r'[i]? = some (some d) → isO (kd G' i) → σ'[i]? = some (some (.ref p)) → p ∉ A)
    (hs : ∀ i d, (∃ P, kd G' i = .s P) ∨ kd G' i = .w → r'[i]? = some (some d) → kd G i = kd G' i ∧ r[i]? = some (some d) ∧ σ'[i]? = σ[i]?) : StoOk K cm H0 G' S' H' σ' r' A where
  nod := h.nod
  out := fun a ha => by
    obtain ⟨_, h2, h3⟩ := h.out a ha
    exact ⟨hS a ha, h2, by rw [hH a ha]; exact h3⟩
  own := ho
  st := fun i k M P hi hr => by
    obtain ⟨a1, a2, a3⟩ := hs i _ (.inl ⟨P, hi⟩) hr
    obtain ⟨b1, b2, b3⟩ := h.st i k M P (a1.trans hi) a2
    refine ⟨b1, by rw [a3]; exact b2, fun n row hn => ?_⟩
    obtain ⟨a, xs, c1, c2, c3⟩ := b3 n row hn
    exact ⟨a, xs, c1, by rw [hH a (List.mem_of_getElem? c1)]; exact c2, c3.mono eS⟩
  al := fun i k hi hr => by
    obtain ⟨a1, a2, a3⟩ := hs i _ (.inr hi) hr
    rw [a3]
    exact h.al i k (a1.trans hi) a2
theorem StoOk.go {K : PySem.W.Frag} {cm : CM} {H0 S H S' H' : Hp} {G : List Ow} {σ : St} {r : Rho} {A : List Addr} (h : StoOk K cm H0 G S H σ r A) (f : Fwd S H S' H') : StoOk K cm H0 G S' H' σ r A :=
  h.sub (fun a ha => by
    obtain ⟨h1, _, xs, h3⟩ := h.out a ha
    cases e : S' a with
    | none => rfl
    | some u => obtain ⟨ys, z⟩ := (f.new a u e h1).not h3; cases z) (fun a ha => by
    obtain ⟨_, _, xs, h3⟩ := h.out a ha
    rw [h3]; exact f.h a _ h3) f.s h.own fun i d hi hr => ⟨rfl, hr, rfl⟩
/-- no such lists -/
theorem StoOk.nil {K : PySem.W.Frag} {cm : CM} {H0 S H : Hp} {G : List Ow} {σ : St} {r : Rho} (h : ∀ i d, r[i]? = some (some d) → (∀ P, kd G i ≠ .s P) ∧ kd G i ≠ .w) : StoOk K cm H0 G S H σ r [] where
  nod := List.nodup_nil
  out := fun a ha => by cases ha
  own := fun i d p _ _ _ hp => by cases hp
  st := fun i k M P hi hr => absurd hi ((h i _ hr).1 P)
  al := fun i k hi hr => absurd hi (h i _ hr).2
structure EnvOk (c : Cf) (S0 H0 : Hp) (G : List Ow) (S H : Hp) (σ : St) (r : Rho) : Prop where
  fwd : Fwd S0 H0 S H
  len : σ.length = r.length
  slot : ∀ i d, r[i]? = some (some d) → ∃ v, σ[i]? = some (some v) ∧ SlotOk c H0 S H (kd G i) v d
  sep : ∀ i j d e p, r[i]? = some (some d) → r[j]? = some (some e) → isO (kd G i) → isO (kd G j) → σ[i]? = some (some (.ref p)) → σ[j]? = some (some (.ref p)) → i = j
  sto : ∃ A, StoOk c.K c.cm H0 G S H σ r A
section
variable {c : Cf} {S0 H0 S H S' H' : Hp} {G : List Ow} {σ : St} {r : Rho}
theorem SlotOk.o_of {k : Ow} {v : V} {d : D} (h : SlotOk c H0 S H k v d) (q : isO k) : ∃ p ho, v = .ref p ∧ H p = some ho ∧ S p = none ∧ H0 p = none ∧ RpO c.K c.cm S ho d := by
  cases k with
  | o => exact h
  | i a => exact h.2
  | _ => cases q
theorem SlotOk.mono {k : Ow} {v : V} {d : D} (h : SlotOk c H0 S H k v d) (f : Fwd S H S' H') : SlotOk c H0 S' H' k v d := by
  cases k with
  | v => exact Rp.mono f.s h
  | o =>
    obtain ⟨p, ho, h1, h2, h3, h4, h5⟩ := h
    refine ⟨p, ho, h1, f.h p _ h2, ?_, h4, h5.mono f.s⟩
    cases e : S' p with
    | none => rfl
    | some u => obtain ⟨ys, z⟩ := (f.new p u e h3).not h2; subst z; cases h5
  | i a =>
    obtain ⟨h0, p, ho, h1, h2, h3, h4, h5⟩ := h
    refine ⟨h0, p, ho, h1, f.h p _ h2, ?_, h4, h5.mono f.s⟩
    cases e : S' p with
    | none => rfl
    | some u => obtain ⟨ys, z⟩ := (f.new p u e h3).not h2; subst z; cases h5
  | b => exact RpB.mono h f.s Ex.refl
  | s P => exact h
  | w => exact h
  | x a C dd =>
    obtain ⟨h1, n, ns, ds, fs, h2, h3, h4, h5, h6⟩ := h
    exact ⟨h1, n, ns, ds, fs, h2, h3, f.s _ _ h4, h5, h6.mono f.s⟩
theorem EnvOk.go (e : EnvOk c S0 H0 G S H σ r) (f : Fwd S H S' H') : EnvOk c S0 H0 G S' H' σ r :=
  ⟨e.fwd.trans f, e.len, fun i d h => let ⟨v, h1, h2⟩ := e.slot i d h; ⟨v, h1, h2.mono f⟩, e.sep, let ⟨A, h⟩ := e.sto; ⟨A, h.go f⟩⟩
theorem EnvOk.ex (e : EnvOk c S0 H0 G S H σ r) : Ex S H := e.fwd.sub
theorem kd_set_self (G : List Ow) (i : Nat) : kd (G.set i .v) i = .v := by
  show (G.set i .v).getD i .v = .v
  rw [List.getD_eq_getElem?_getD, List.getElem?_set]
  split
  · split <;> rfl
  · rename_i h; exact absurd rfl h
theorem kd_set_ne {G : List Ow} {i j : Nat} {k : Ow} (h : i ≠ j) : kd (G.set i k) j = kd G j := by
  show (G.set i k).getD j .v = G.getD j .v
  rw [List.getD_eq_getElem?_getD, List.getD_eq_getElem?_getD, List.getElem?_set_ne h]
theorem kd_set_o {G : List Ow} {i : Nat} {k : Ow} (h : i < G.length) : kd (G.set i k) i = k := by
  show (G.set i k).getD i .v = k
  rw [List.getD_eq_getElem?_getD, List.getElem?_set_self h]; rfl
theorem set_some {α : Type} {l : List (Option α)} {i j : Nat} {a : Option α} {b : α} (h : (l.set i a)[j]? = some (some b)) : (i = j ∧ a = some b ∧ i < l.length) ∨ (i ≠ j ∧ l[j]? = some (some b)) := by
  by_cases e : i = j
  · subst e
    rw [List.getElem?_set] at h
    rw [if_pos rfl] at h
    split at h
    · rename_i hl; exact .inl ⟨rfl, Option.some.inj h, hl⟩
    · cases h
  · rw [List.getElem?_set_ne e] at h
    exact .inr ⟨e, h⟩
/-- a slot gets a value -/
theorem EnvOk.setV (e : EnvOk c S0 H0 G S H σ r) {v : V} {d : D} (i : Nat) (h : Rp c.K c.cm S v d) : EnvOk c S0 H0 (G.set i .v) S H (σ.set i (some v)) (r.set i (some d)) := by
  refine ⟨e.fwd, by simp [e.len], fun j b hb => ?_, fun j k b b' p hj hk kj kk sj sk => ?_, let ⟨A, hA⟩ := e.sto; ⟨A, hA.sub (fun a ha => (hA.out a ha).1) (fun _ _ => rfl) Ex.refl (fun j b q hj kj sj => ?_) fun j b kj hj => ?_⟩⟩
  · rcases set_some hb with ⟨rfl, ea, hl⟩ | ⟨ne, hb⟩
    · cases ea
      exact ⟨v, by rw [List.getElem?_set_self (by rw [e.len]; exact hl)], by rw [kd_set_self]; exact h⟩
    · obtain ⟨u, h1, h2⟩ := e.slot j b hb
      exact ⟨u, by rw [List.getElem?_set_ne ne]; exact h1, by rw [kd_set_ne ne]; exact h2⟩
  · have nj : i ≠ j := fun z => by subst z; rw [kd_set_self] at kj; cases kj
    have nk : i ≠ k := fun z => by subst z; rw [kd_set_self] at kk; cases kk
    rw [List.getElem?_set_ne nj] at hj sj
    rw [List.getElem?_set_ne nk] at hk sk
    rw [kd_set_ne nj] at kj
    rw [kd_set_ne nk] at kk
    exact e.sep j k b b' p hj hk kj kk sj sk
  · have nj : i ≠ j := fun z => by subst z; rw [kd_set_self] at kj; cases kj
    rw [List.getElem?_set_ne nj] at hj sj
    rw [kd_set_ne nj] at kj
    exact hA.own j b q hj kj sj
  · have nj : i ≠ j := fun z => by subst z; rw [kd_set_self] at kj; rcases kj with ⟨_, kj⟩ | kj <;> cases kj
    rw [List.getElem?_set_ne nj] at hj
    rw [kd_set_ne nj, List.getElem?_set_ne nj]
    exact ⟨rfl, hj, rfl⟩
/-- a slot gets a new mutable object -/
theorem EnvOk.setO (e : EnvOk c S0 H0 G S H σ r) (f : Fwd S H S' H') {p : Addr} {ho : HO} {d : D} (i : Nat) (hi : i < G.length) (n : H p = none) (ns : S' p = none) (hp : H' p = some ho) (h : RpO c.K c.cm S' ho d) :
    EnvOk c S0 H0 (G.set i .o) S' H' (σ.set i (some (.ref p))) (r.set i (some d)) := by
  have e' := e.go f
  have fresh : ∀ j b, r[j]? = some (some b) → isO (kd G j) → σ[j]? ≠ some (some (.ref p)) := fun j b hb kj sj => by
    obtain ⟨u, h1, h2⟩ := e.slot j b hb
    obtain ⟨q, ho', z1, z2, _⟩ := h2.o_of kj
    rw [sj] at h1; cases h1; cases z1
    rw [n] at z2; cases z2
  refine ⟨e'.fwd, by simp [e.len], fun j b hb => ?_, fun j k b b' q hj hk kj kk sj sk => ?_, let ⟨A, hA⟩ := e.sto; ⟨A, (hA.go f).sub (fun a ha => ((hA.go f).out a ha).1) (fun _ _ => rfl) Ex.refl (fun j b q hj kj sj => ?_) fun j b kj hj => ?_⟩⟩
  · rcases set_some hb with ⟨rfl, ea, hl⟩ | ⟨ne, hb⟩
    · cases ea
      refine ⟨.ref p, by rw [List.getElem?_set_self (by rw [e.len]; exact hl)], ?_⟩
      rw [kd_set_o hi]
      exact ⟨p, ho, rfl, hp, ns, e.fwd.h.nn n, h⟩
    · obtain ⟨u, h1, h2⟩ := e'.slot j b hb
      exact ⟨u, by rw [List.getElem?_set_ne ne]; exact h1, by rw [kd_set_ne ne]; exact h2⟩
  · by_cases nj : i = j
    · by_cases nk : i = k
      · rw [← nj, nk]
      · subst nj
        exfalso
        rcases set_some sj with ⟨_, ea, _⟩ | ⟨ne, _⟩
        · cases ea
          rw [List.getElem?_set_ne nk] at hk sk
          rw [kd_set_ne nk] at kk
          exact fresh k _ hk kk sk
        · exact ne rfl
    · by_cases nk : i = k
      · subst nk
        exfalso
        rcases set_some sk with ⟨_, ea, _⟩ | ⟨ne, _⟩
        · cases ea
          rw [List.getElem?_set_ne nj] at hj sj
          rw [kd_set_ne nj] at kj
          exact fresh j _ hj kj sj
        · exact ne rfl
      · rw [List.getElem?_set_ne nj] at hj sj
        rw [List.getElem?_set_ne nk] at hk sk
        rw [kd_set_ne nj] at kj
        rw [kd_set_ne nk] at kk
        exact e.sep j k b b' q hj hk kj kk sj sk
  · rcases set_some sj with ⟨_, ea, _⟩ | ⟨nj, sj⟩
    · cases ea
      intro ha
      obtain ⟨_, _, xs, h3⟩ := hA.out p ha
      rw [n] at h3; cases h3
    · rw [List.getElem?_set_ne nj] at hj
      rw [kd_set_ne nj] at kj
      exact hA.own j b q hj kj sj
  · have nj : i ≠ j := fun z => by subst z; rw [kd_set_o hi] at kj; rcases kj with ⟨_, kj⟩ | kj <;> cases kj
    rw [List.getElem?_set_ne nj] at hj
    rw [kd_set_ne nj, List.getElem?_set_ne nj]
    exact ⟨rfl, hj, rfl⟩
/-- the own object in slot i: its place -/
theorem EnvOk.ownI (e : EnvOk c S0 H0 G S H σ r) {i : Nat} {d : D} (k : isO (kd G i)) (h : r[i]? = some (some d)) : ∃ p ho, σ[i]? = some (some (.ref p)) ∧ H p = some ho ∧ S p = none ∧ H0 p = none ∧ RpO c.K c.cm S ho d := by
  obtain ⟨v, h1, h2⟩ := e.slot i d h
  obtain ⟨p, ho, rfl, h3⟩ := h2.o_of k
  exact ⟨p, ho, h1, h3⟩
/-- the own object in slot i is changed -/
theorem EnvOk.mutI (e : EnvOk c S0 H0 G S H σ r) {i : Nat} {d d' : D} {p : Addr} {ho' : HO} (k : isO (kd G i)) (h : r[i]? = some (some d)) (hs : σ[i]? = some (some (.ref p))) (h' : RpO c.K c.cm S ho' d') :
    EnvOk c S0 H0 G S (upd H p ho') σ (r.set i (some d')) := by
  obtain ⟨q, ho, s1, s2, s3, s4, s5⟩ := e.ownI k h
  rw [hs] at s1; cases s1
  have hf : Fwd S0 H0 S (upd H p ho') := ⟨e.fwd.s, e.fwd.h.put s4, e.fwd.sub.put s3, e.fwd.new⟩
  refine ⟨hf, by simp [e.len], fun j b hb => ?_, fun j l b b' q hj hk kj kk sj sk => ?_, let ⟨A, hA⟩ := e.sto; ⟨A, hA.sub (fun a ha => (hA.out a ha).1) (fun a ha => upd_ne fun z => hA.own i d p h k hs (z ▸ ha)) Ex.refl (fun j b q hj kj sj => ?_) fun j b kj hj => ?_⟩⟩
  · rcases set_some hb with ⟨rfl, ea, hl⟩ | ⟨ne, hb⟩
    · cases ea
      refine ⟨.ref p, hs, ?_⟩
      cases kk : kd G i with
      | o => exact ⟨p, ho', rfl, upd_same, s3, s4, h'⟩
      | i a =>
        obtain ⟨u, h1, h2⟩ := e.slot i d h
        rw [kk] at h2
        rw [hs] at h1; cases h1
        exact ⟨h2.1, p, ho', rfl, upd_same, s3, s4, h'⟩
      | _ => rw [kk] at k; cases k
    · obtain ⟨u, h1, h2⟩ := e.slot j b hb
      refine ⟨u, h1, ?_⟩
      cases kj : kd G j with
      | v => rw [kj] at h2; exact h2
      | b => rw [kj] at h2; exact h2
      | s P => rw [kj] at h2; exact h2
      | w => rw [kj] at h2; exact h2
      | x a C dd => rw [kj] at h2; exact h2
      | o =>
        rw [kj] at h2
        obtain ⟨q, hq, z1, z2, z3, z4, z5⟩ := h2
        subst z1
        have : q ≠ p := fun z => by subst z; exact ne (e.sep i j d b q h hb k (by rw [kj]; trivial) hs h1)
        exact ⟨q, hq, rfl, by rw [upd_ne this]; exact z2, z3, z4, z5⟩
      | i a =>
        rw [kj] at h2
        obtain ⟨z0, q, hq, z1, z2, z3, z4, z5⟩ := h2
        subst z1
        have : q ≠ p := fun z => by subst z; exact ne (e.sep i j d b q h hb k (by rw [kj]; trivial) hs h1)
        exact ⟨z0, q, hq, rfl, by rw [upd_ne this]; exact z2, z3, z4, z5⟩
  · have un : ∀ m b, (r.set i (some d'))[m]? = some (some b) → ∃ b', r[m]? = some (some b') := fun m b hm => by
      rcases set_some hm with ⟨rfl, _, _⟩ | ⟨_, hm⟩
      · exact ⟨d, h⟩
      · exact ⟨b, hm⟩
    obtain ⟨b1, hj⟩ := un j b hj
    obtain ⟨b2, hk⟩ := un l b' hk
    exact e.sep j l b1 b2 q hj hk kj kk sj sk
  · rcases set_some hj with ⟨nj, _, _⟩ | ⟨_, hj⟩
    · subst nj
      exact hA.own i d q h kj sj
    · exact hA.own j b q hj kj sj
  · rcases set_some hj with ⟨nj, _, _⟩ | ⟨_, hj⟩
    · subst nj
      rcases kj with ⟨_, kj⟩ | kj <;> (rw [kj] at k; cases k)
    · exact ⟨rfl, hj, rfl⟩
theorem isO_o {k : Ow} (h : k = .o) : isO k := by rw [h]; trivial
theorem EnvOk.own (e : EnvOk c S0 H0 G S H σ r) {i : Nat} {d : D} (k : kd G i = .o) (h : r[i]? = some (some d)) : ∃ p ho, σ[i]? = some (some (.ref p)) ∧ H p = some ho ∧ S p = none ∧ H0 p = none ∧ RpO c.K c.cm S ho d := e.ownI (isO_o k) h
theorem EnvOk.mut (e : EnvOk c S0 H0 G S H σ r) {i : Nat} {d d' : D} {p : Addr} {ho' : HO} (k : kd G i = .o) (h : r[i]? = some (some d)) (hs : σ[i]? = some (some (.ref p))) (h' : RpO c.K c.cm S ho' d') :
    EnvOk c S0 H0 G S (upd H p ho') σ (r.set i (some d')) := e.mutI (isO_o k) h hs h'
theorem StoOk.un {A : List Addr} (hA : StoOk c.K c.cm H0 G S H σ r A) (i : Nat) (hk : kd G i = .o ∨ kd G i = .v) (hS : ∀ a ∈ A, S' a = none) (eS : Ex S S') : StoOk c.K c.cm H0 (G.set i .v) S' H σ r A :=
  hA.sub hS (fun _ _ => rfl) eS (fun j b q hj kj sj => by
    have nj : i ≠ j := fun z => by subst z; rw [kd_set_self] at kj; cases kj
    rw [kd_set_ne nj] at kj
    exact hA.own j b q hj kj sj) fun j b kj hj => by
    have nj : i ≠ j := fun z => by subst z; rw [kd_set_self] at kj; rcases kj with ⟨_, kj⟩ | kj <;> cases kj
    rw [kd_set_ne nj]
    exact ⟨rfl, hj, rfl⟩
theorem EnvOk.sto_un (e : EnvOk c S0 H0 G S H σ r) (i : Nat) (hk : kd G i = .o ∨ kd G i = .v) : ∃ A, StoOk c.K c.cm H0 (G.set i .v) S H σ r A :=
  let ⟨A, hA⟩ := e.sto
  ⟨A, hA.un i hk (fun a ha => (hA.out a ha).1) Ex.refl⟩
/-- the own object in slot i becomes a value, as ho2 -/
theorem EnvOk.pubG (e : EnvOk c S0 H0 G S H σ r) (i : Nat) (k : kd G i = .o) {d : D} (h : r[i]? = some (some d)) {p : Addr} {ho ho2 : HO} (s1 : σ[i]? = some (some (.ref p))) (s2 : H p = some ho) (s3 : S p = none) (s4 : H0 p = none) (hrp : Rp c.K c.cm (upd S p ho2) (.ref p) d) :
    EnvOk c S0 H0 (G.set i .v) (upd S p ho2) (upd H p ho2) σ r := by
  have hk : kd G i = .o ∨ kd G i = .v := .inl k
  have ex : Ex S (upd S p ho2) := Ex.new s3
  refine ⟨⟨e.fwd.s.trans ex, e.fwd.h.put s4, e.fwd.sub.both, fun a u ha m => ?_⟩, e.len, fun j b hb => ?_, fun j l b b' q hj hk kj kk sj sk => ?_, let ⟨A, hA⟩ := e.sto; ⟨A, ?_⟩⟩
  · by_cases hh : a = p
    · subst hh; exact .inl s4
    · rw [upd_ne hh] at ha; exact e.fwd.new a u ha m
  · by_cases ne : i = j
    · subst ne
      rw [h] at hb; cases hb
      refine ⟨.ref p, s1, ?_⟩
      rw [kd_set_self]
      exact hrp
    · obtain ⟨u, h1, h2⟩ := e.slot j b hb
      refine ⟨u, h1, ?_⟩
      rw [kd_set_ne ne]
      cases kj : kd G j with
      | v => rw [kj] at h2; exact Rp.mono ex h2
      | b => rw [kj] at h2; exact RpB.mono h2 ex Ex.refl
      | s P => rw [kj] at h2; exact h2
      | w => rw [kj] at h2; exact h2
      | x a C dd =>
        rw [kj] at h2
        obtain ⟨y1, n, ns, ds, fs, y2, y3, y4, y5, y6⟩ := h2
        exact ⟨y1, n, ns, ds, fs, y2, y3, ex _ _ y4, y5, y6.mono ex⟩
      | o =>
        rw [kj] at h2
        obtain ⟨q, hq, z1, z2, z3, z4, z5⟩ := h2
        subst z1
        have : q ≠ p := fun z => by subst z; exact ne (e.sep i j d b q h hb (isO_o k) (isO_o kj) s1 h1)
        exact ⟨q, hq, rfl, by rw [upd_ne this]; exact z2, by rw [upd_ne this]; exact z3, z4, z5.mono ex⟩
      | i a =>
        rw [kj] at h2
        obtain ⟨z0, q, hq, z1, z2, z3, z4, z5⟩ := h2
        subst z1
        have : q ≠ p := fun z => by subst z; exact ne (e.sep i j d b q h hb (isO_o k) (by rw [kj]; trivial) s1 h1)
        exact ⟨z0, q, hq, rfl, by rw [upd_ne this]; exact z2, by rw [upd_ne this]; exact z3, z4, z5.mono ex⟩
  · have nj : i ≠ j := fun z => by subst z; rw [kd_set_self] at kj; cases kj
    have nl : i ≠ l := fun z => by subst z; rw [kd_set_self] at kk; cases kk
    rw [kd_set_ne nj] at kj
    rw [kd_set_ne nl] at kk
    exact e.sep j l b b' q hj hk kj kk sj sk
  · have np : ∀ a ∈ A, a ≠ p := fun a ha z => hA.own i d p h (isO_o k) s1 (z ▸ ha)
    refine hA.sub (fun a ha => by rw [upd_ne (np a ha)]; exact (hA.out a ha).1) (fun a ha => upd_ne (np a ha)) ex (fun j b q hj kj sj => ?_) fun j b kj hj => ?_
    · have nj : i ≠ j := fun z => by subst z; rw [kd_set_self] at kj; cases kj
      rw [kd_set_ne nj] at kj
      exact hA.own j b q hj kj sj
    · have nj : i ≠ j := fun z => by subst z; rw [kd_set_self] at kj; rcases kj with ⟨_, kj⟩ | kj <;> cases kj
      rw [kd_set_ne nj]
      exact ⟨rfl, hj, rfl⟩
theorem upd_eq {H : Hp} {p : Addr} {o : HO} (h : H p = some o) : upd H p o = H := by
  funext a
  by_cases e : a = p
  · rw [e, upd_same, h]
  · rw [upd_ne e]
/-- an own dict becomes a value: it is locked -/
theorem EnvOk.pubD (e : EnvOk c S0 H0 G S H σ r) (i : Nat) (k : kd G i = .o) {d : D} (h : r[i]? = some (some d)) (hd : isDct d = true) : ∃ p u, H p = some u ∧ Mut (some u) ∧ ∀ w, ∃ S', EnvOk c S0 H0 (G.set i .v) S' (upd H p (.frz w u)) σ r := by
  obtain ⟨p, ho, s1, s2, s3, s4, s5⟩ := e.own k h
  exact ⟨p, ho, s2, s5.mut, fun w => ⟨_, e.pubG i k h s1 s2 s3 s4 ((s5.mono (Ex.new s3)).pubD hd upd_same).1⟩⟩
/-- the own object in slot i becomes a value -/
theorem EnvOk.pub (e : EnvOk c S0 H0 G S H σ r) (i : Nat) (hk : kd G i = .o ∨ kd G i = .v) (nd : ∀ d, r[i]? = some (some d) → isDct d = false) : ∃ S', EnvOk c S0 H0 (G.set i .v) S' H σ r := by
  by_cases k : kd G i = .o
  · cases h : r[i]? with
    | none =>
      refine ⟨S, e.fwd, e.len, fun j b hb => ?_, fun j l b b' q hj hk kj kk sj sk => ?_, e.sto_un i hk⟩
      · have ne : i ≠ j := fun z => by subst z; rw [h] at hb; cases hb
        obtain ⟨u, h1, h2⟩ := e.slot j b hb
        exact ⟨u, h1, by rw [kd_set_ne ne]; exact h2⟩
      · have nj : i ≠ j := fun z => by subst z; rw [h] at hj; cases hj
        have nl : i ≠ l := fun z => by subst z; rw [h] at hk; cases hk
        rw [kd_set_ne nj] at kj
        rw [kd_set_ne nl] at kk
        exact e.sep j l b b' q hj hk kj kk sj sk
    | some od =>
      cases od with
      | none =>
        refine ⟨S, e.fwd, e.len, fun j b hb => ?_, fun j l b b' q hj hk kj kk sj sk => ?_, e.sto_un i hk⟩
        · have ne : i ≠ j := fun z => by subst z; rw [h] at hb; cases hb
          obtain ⟨u, h1, h2⟩ := e.slot j b hb
          exact ⟨u, h1, by rw [kd_set_ne ne]; exact h2⟩
        · have nj : i ≠ j := fun z => by subst z; rw [h] at hj; cases hj
          have nl : i ≠ l := fun z => by subst z; rw [h] at hk; cases hk
          rw [kd_set_ne nj] at kj
          rw [kd_set_ne nl] at kk
          exact e.sep j l b b' q hj hk kj kk sj sk
      | some d =>
        obtain ⟨p, ho, s1, s2, s3, s4, s5⟩ := e.own k h
        have := e.pubG i k h s1 s2 s3 s4 (ho2 := ho) ((s5.mono (Ex.new s3)).pub (nd d h) upd_same)
        rw [upd_eq s2] at this
        exact ⟨_, this⟩
  · have k' : kd G i = .v := hk.resolve_left k
    have all : ∀ j, kd (G.set i .v) j = kd G j := fun j => by
      by_cases ne : i = j
      · subst ne; rw [kd_set_self, k']
      · exact kd_set_ne ne
    exact ⟨S, e.fwd, e.len, fun j b hb => by rw [all]; exact e.slot j b hb, fun j l b b' q hj hk kj kk sj sk => e.sep j l b b' q hj hk ((all j) ▸ kj) ((all l) ▸ kk) sj sk, e.sto_un i hk⟩
end
end Dx
end S_DxA
section S_DxB
set_option Elab.async false
set_option linter.all false
set_option maxRecDepth 100000
set_option maxHeartbeats 2000000
namespace Dx
open PySem L2
/-- what is wanted behind a result, from (S, H) on -/
def PostG (c : Cf) (σ : St) (S H : Hp) {α : Type} (r : Res α) (k : α → Hp → Hp → Prop) : Prop :=
  match r with
  | .ok a => ∀ S' H', Fwd S H S' H' → k a S' H'
  | .err n ns vs => ∀ C dd S' H' fs, c.cm n = some C → Fwd S H S' H' → S' dd = some (.xd fs) → ns = fs.map (·.1) → RpA c.K c.cm S' (fs.map (·.2)) vs → c.W (.ref C) (some dd) σ H'
  | .bad => False
section
variable {c : Cf} {σ : St} {S H S1 H1 : Hp} {α β : Type} {r : Res α} {k k' : α → Hp → Hp → Prop}
theorem PostG.mono (h : PostG c σ S H r k) (f : Fwd S H S1 H1) : PostG c σ S1 H1 r k := by
  cases r with
  | ok a => exact fun S' H' g => h S' H' (f.trans g)
  | err n ns vs => exact fun C dd S' H' fs h1 g h2 h3 h4 => h C dd S' H' fs h1 (f.trans g) h2 h3 h4
  | bad => exact h
theorem PostG.imp (h : PostG c σ S H r k) (hk : ∀ a S' H', Fwd S H S' H' → k a S' H' → k' a S' H') : PostG c σ S H r k' := by
  cases r with
  | ok a => exact fun S' H' g => hk a S' H' g (h S' H' g)
  | err n ns vs => exact h
  | bad => exact h
theorem PostG.unbind {g : α → Res β} {k : β → Hp → Hp → Prop} (h : PostG c σ S H (r.bind g) k) : PostG c σ S H r fun a S' H' => PostG c σ S' H' (g a) k := by
  cases r with
  | ok a => exact fun S' H' f => PostG.mono (show PostG c σ S H (g a) k from h) f
  | err n ns vs => exact h
  | bad => exact h
end
/-- x where p holds; nothing is reckoned for it -/
noncomputable def guard {α : Type} (p : Prop) (x : Res α) : Res α := @ite _ p (Classical.propDecidable p) x .bad
theorem guard_pos {α : Type} {p : Prop} {x : Res α} (h : p) : guard p x = x := by unfold guard; exact if_pos h
theorem PostG.gd {c : Cf} {σ : St} {S H : Hp} {α : Type} {p : Prop} {x : Res α} {k : α → Hp → Hp → Prop} (h : PostG c σ S H (guard p x) k) : p ∧ PostG c σ S H x k := by
  by_cases hp : p
  · rw [guard_pos hp] at h; exact ⟨hp, h⟩
  · unfold guard at h; rw [if_neg hp] at h; exact h.elim
/-- a mode: what the heap ahead, the heaps behind, the machine's result and the data have in common -/
abbrev Md (β α : Type) := Hp → Hp → Hp → β → α → Prop
class Anti {β α : Type} (R : Md β α) : Prop where
  anti : ∀ {H H2 S' H' : Hp} {b : β} {a : α}, Ex H H2 → R H2 S' H' b a → R H S' H' b a
def mV (c : Cf) : Md V D := fun _ S' _ v d => Rp c.K c.cm S' v d
def mB (c : Cf) : Md V D := fun _ S' H' v d => RpB c.K c.cm S' H' v d
def mO (c : Cf) : Md V D := fun H S' H' v d => ∃ p ho, v = .ref p ∧ H p = none ∧ S' p = none ∧ H' p = some ho ∧ RpO c.K c.cm S' ho d
def mA (c : Cf) : Md (List V) (List D) := fun _ S' _ vs ds => RpA c.K c.cm S' vs ds
def mE (α : Type) : Md α α := fun _ _ _ b a => b = a
instance {c : Cf} : Anti (mV c) := ⟨fun _ h => h⟩
instance {c : Cf} : Anti (mB c) := ⟨fun _ h => h⟩
instance {c : Cf} : Anti (mA c) := ⟨fun _ h => h⟩
instance {α : Type} : Anti (mE α) := ⟨fun _ h => h⟩
instance {c : Cf} : Anti (mO c) := ⟨fun e ⟨p, ho, h1, h2, h3⟩ => ⟨p, ho, h1, e.nn h2, h3⟩⟩
/-- the reading of a piece whose data is f -/
def rd (c : Cf) (G : List Ow) {α β : Type} (f : Rho → Res α) (R : Md β α) : St → Hp → (β → Hp → Prop) → Prop := fun σ H Q =>
  ∃ S0 H0 S r, EnvOk c S0 H0 G S H σ r ∧ PostG c σ S H (f r) fun a S' H' => ∀ b, R H S' H' b a → Q b H'
abbrev tV (c : Cf) (G : List Ow) (f : Rho → Res D) : TE := rd c G f (mV c)
abbrev tR (c : Cf) (G : List Ow) (f : Rho → Res D) : TE := rd c G f (mB c)
abbrev tO (c : Cf) (G : List Ow) (f : Rho → Res D) : TE := rd c G f (mO c)
abbrev tT (c : Cf) (G : List Ow) (f : Rho → Res Bool) : TT := rd c G f (mE Bool)
abbrev tAs (c : Cf) (G : List Ow) (f : Rho → Res (List D)) : TA := rd c G f (mA c)
theorem pe_imp {X : Cx} {e : Expr} {t t' : TE} (h : PE X e t) (k : ∀ σ H Q, t' σ H Q → t σ H Q) : PE X e t' := ⟨fun pins s σ H Q I q => h.run pins s σ H Q I (k σ H Q q)⟩
theorem pt_imp {X : Cx} {e : Expr} {t t' : TT} (h : PT X e t) (k : ∀ σ H Q, t' σ H Q → t σ H Q) : PT X e t' := ⟨fun pins s σ H Q I q => h.run pins s σ H Q I (k σ H Q q)⟩
theorem pa_imp {X : Cx} {es : List Expr} {t t' : TA} (h : PA X es t) (k : ∀ σ H Q, t' σ H Q → t σ H Q) : PA X es t' := ⟨fun p pins s σ H Q I q => h.run p pins s σ H Q I (k σ H Q q)⟩
theorem ps_imp {X : Cx} {st : Stmt} {t t' : TS} (h : PS X st t) (k : ∀ E σ H, t' E σ H → t E σ H) : PS X st t' := ⟨fun pins s σ H E I q => h.run pins s σ H E I (k E σ H q)⟩
theorem pss_imp {X : Cx} {st : List Stmt} {t t' : TS} (h : PSs X st t) (k : ∀ E σ H, t' E σ H → t E σ H) : PSs X st t' := ⟨fun pins s σ H E I q => h.run pins s σ H E I (k E σ H q)⟩
section
variable {c : Cf} {G : List Ow} {σ : St} {S0 H0 S H : Hp} {r : Rho} {α β γ : Type}
/-- one piece, then what follows -/
theorem rd_seq {f : Rho → Res α} {R : Md β α} (e : EnvOk c S0 H0 G S H σ r) {g : α → Res γ} {k : γ → Hp → Hp → Prop} (p : PostG c σ S H ((f r).bind g) k) {Q : β → Hp → Prop}
    (h : ∀ a b S' H', Fwd S H S' H' → EnvOk c S0 H0 G S' H' σ r → R H S' H' b a → PostG c σ S' H' (g a) k → Q b H') : rd c G f R σ H Q :=
  ⟨S0, H0, S, r, e, p.unbind.imp fun a S' H' fw hk b hb => h a b S' H' fw (e.go fw) hb hk⟩
theorem PostG.anti {R : Md β α} [Anti R] {H2 : Hp} {x : Res α} {Q : β → Hp → Prop} (e : Ex H H2) {S2 : Hp} (p : PostG c σ S2 H2 x fun a S' H' => ∀ b, R H S' H' b a → Q b H') :
    PostG c σ S2 H2 x fun a S' H' => ∀ b, R H2 S' H' b a → Q b H' := p.imp fun _ _ _ _ hk b hb => hk b (Anti.anti e hb)
/-- the wish behind a value that is there -/
theorem PostG.here {R : Md β α} {a : α} {b : β} {Q : β → Hp → Prop} (p : PostG c σ S H (.ok a) fun a S' H' => ∀ b, R H S' H' b a → Q b H') (e : Ex S H) (h : R H S H b a) : Q b H := p S H (Fwd.refl e) b h
theorem PostG.go {a : α} {k : α → Hp → Hp → Prop} (p : PostG c σ S H (.ok a) k) (e : Ex S H) : k a S H := p S H (Fwd.refl e)
/-- .. behind a new object that stays; that is kept own -/
theorem PostG.laid {d : D} {o : HO} {q : Addr} {Q : VK} (p : PostG c σ S H (.ok d) fun a S' H' => ∀ b, mV c H S' H' b a → Q b H') (e : Ex S H) (n : H q = none) (h : Rp c.K c.cm (upd S q o) (.ref q) d) : Q (.ref q) (upd H q o) :=
  p _ _ (Fwd.both e n) _ h
theorem PostG.kept {d : D} {o : HO} {q : Addr} {Q : VK} (p : PostG c σ S H (.ok d) fun a S' H' => ∀ b, mO c H S' H' b a → Q b H') (e : Ex S H) (n : H q = none) (h : RpO c.K c.cm S o d) : Q (.ref q) (upd H q o) :=
  p _ _ (Fwd.heap e n) _ ⟨q, o, rfl, n, e.nn n, upd_same, h⟩
end
/-- .. or so as soon as a told object is locked -/
def Lo (Q : Hp → Prop) (H : Hp) : Prop := Q H ∨ ∃ p u, H p = some u ∧ Mut (some u) ∧ ∀ w, Q (upd H p (.frz w u))
theorem Fwd.pubF {S H S' H' : Hp} {p : Addr} {o : HO} (f : Fwd S H S' H') (n : H p = none) (ns : S' p = none) : Fwd S H (upd S' p o) (upd H' p o) :=
  ⟨f.s.trans (Ex.new ns), f.h.put n, f.sub.both, fun a u ha m => by
    by_cases hh : a = p
    · subst hh; exact .inl n
    · rw [upd_ne hh] at ha; exact f.new a u ha m⟩
section
variable {X : Cx}
theorem pe_lock {e : Expr} {t t2 : TE} (h : PE X e t) (k : ∀ σ H Q, t2 σ H Q → t σ H fun v H' => Lo (Q v) H') : PE X e t2 := ⟨fun pins s σ H Q I q => thn (h.run pins s σ H _ I (k _ _ _ q)) fun u s' ⟨v, H', I', r, z⟩ => by
  rcases z with z | ⟨p, ho, h1, h2, z⟩
  · exact ⟨v, H', I', r, z⟩
  · obtain ⟨od, I2⟩ := I'.lock h1 h2
    exact ⟨v, _, I2, r, z od⟩⟩
theorem pss_lock {st : List Stmt} {t t2 : TS} (h : PSs X st t) (k : ∀ E σ H, t2 E σ H → Lo (fun H => t E σ H) H) : PSs X st t2 := ⟨fun pins s σ H E I q => by
  rcases k _ _ _ q with z | ⟨p, ho, h1, h2, z⟩
  · exact h.run pins s σ H E I z
  · obtain ⟨od, I2⟩ := I.lock h1 h2
    exact h.run pins s σ _ E I2 (z od)⟩
end
section
variable {X : Cx} {c : Cf} {G : List Ow} {f f1 f2 : Rho → Res D} {a b e : Expr} {pos : Pos}
theorem de_pub (h : PE X e (tO c G f)) : PE X e (tV c G f) := pe_lock h fun σ H Q ⟨S0, H0, S, r, ok, p⟩ => ⟨S0, H0, S, r, ok, by
  revert p
  cases f r with
  | ok d =>
    intro p S' H' fw b hb
    obtain ⟨q, ho, rfl, h1, h2, h3, h4⟩ := hb
    cases hd : isDct d with
    | false =>
      have fw' := fw.pub h1 h2 h3
      exact .inl (p _ H' fw' _ ((h4.mono (Ex.new h2)).pub hd upd_same))
    | true => exact .inr ⟨q, ho, h3, h4.mut, fun w => p _ _ (fw.pubF h1 h2) _ ((h4.mono (Ex.new h2)).pubD hd upd_same).1⟩
  | err n ns vs => exact id
  | bad => exact id⟩
theorem db_of (h : PE X e (tV c G f)) : PE X e (tR c G f) := pe_imp h fun σ H Q ⟨S0, H0, S, r, ok, p⟩ => ⟨S0, H0, S, r, ok, p.imp fun _ _ _ _ hk b hb => hk b (.inl hb)⟩
theorem db_own (h : PE X e (tO c G f)) : PE X e (tR c G f) := db_of (de_pub h)
def dVar (i : Nat) : Rho → Res D := fun r => match r[i]? with
  | some (some d) => .ok d
  | _ => .bad
def dC (d : D) : Rho → Res D := fun _ => .ok d
theorem of_dVar {σ : St} {S H : Hp} {i : Nat} {r : Rho} {k : D → Hp → Hp → Prop} (p : PostG c σ S H (dVar i r) k) : ∃ d, r[i]? = some (some d) ∧ PostG c σ S H (.ok d) k := by
  unfold dVar at p
  split at p
  · exact ⟨_, by assumption, p⟩
  · exact p.elim
theorem de_var (i : Nat) {x : Str} (h : PE X (.Name x pos) (tVar i)) (k : kd G i = .v) : PE X (.Name x pos) (tV c G (dVar i)) := pe_imp h fun σ H Q ⟨S0, H0, S, r, ok, p⟩ => by
  obtain ⟨d, hd, p⟩ := of_dVar p
  obtain ⟨v, h1, h2⟩ := ok.slot i d hd
  rw [k] at h2
  exact ⟨v, h1, p.here ok.ex h2⟩
theorem db_var (i : Nat) {x : Str} (h : PE X (.Name x pos) (tVar i)) (k : kd G i = .v ∨ isO (kd G i) ∨ kd G i = .b) : PE X (.Name x pos) (tR c G (dVar i)) := pe_imp h fun σ H Q ⟨S0, H0, S, r, ok, p⟩ => by
  obtain ⟨d, hd, p⟩ := of_dVar p
  obtain ⟨v, h1, h2⟩ := ok.slot i d hd
  refine ⟨v, h1, p.here ok.ex ?_⟩
  rcases k with k | k | k
  · rw [k] at h2; exact .inl h2
  · obtain ⟨q, ho, z1, z2, z3, z4, z5⟩ := h2.o_of k
    exact .inr ⟨q, ho, z1, z2, z5⟩
  · rw [k] at h2
    exact RpB.mono h2 Ex.refl ok.fwd.h
theorem de_c {v : V} {d : D} (h : PE X e (tC v)) (hd : ∀ S, Rp c.K c.cm S v d) : PE X e (tV c G (dC d)) := pe_imp h fun σ H Q ⟨S0, H0, S, r, ok, p⟩ => p.here ok.ex (hd S)
theorem de_int {i : Int} {j : Nat} : PE X (.Constant (.int i) j pos) (tV c G (dC (.int i))) := de_c pe_int fun _ => .int i
theorem de_bl {b : Bool} {j : Nat} : PE X (.Constant (.bool b) j pos) (tV c G (dC (.bl b))) := de_c pe_bl fun _ => .bl b
theorem de_non {j : Nat} : PE X (.Constant .none j pos) (tV c G (dC .non)) := de_c pe_non fun _ => .non
theorem de_str {x : Str} {j : Nat} : PE X (.Constant (.str x) j pos) (tV c G (dC (.str x))) := de_c pe_str fun _ => .str x
def dOp (g : D → D → Res D) (f1 f2 : Rho → Res D) : Rho → Res D := fun r => (f1 r).bind fun x => (f2 r).bind fun y => g x y
def OpS (c : Cf) (R : Md V D) (r2 : R2) (g : D → D → Res D) : Prop := ∀ (σ : St) (S H : Hp) (x y : V) (d e : D) (Q : VK), Ex S H → RpB c.K c.cm S H x d → RpB c.K c.cm S H y e →
  PostG c σ S H (g d e) (fun a S' H' => ∀ b, R H S' H' b a → Q b H') → r2 x y H Q
theorem op_rd {R : Md V D} [Anti R] {r2 : R2} {g : D → D → Res D} (hs : OpS c R r2 g) : ∀ σ H Q, rd c G (dOp g f1 f2) R σ H Q → tOp r2 (tR c G f1) (tR c G f2) σ H Q := fun σ H Q ⟨S0, H0, S, r, ok, p⟩ =>
  rd_seq ok p fun x v S1 H1 w1 o1 m1 p1 => rd_seq o1 p1 fun y u S2 H2 w2 o2 m2 p2 => hs σ S2 H2 v u x y Q o2.ex (RpB.mono m1 w2.s w2.h) m2 (p2.anti (w1.h.trans w2.h))
theorem de_op {R : Md V D} [Anti R] {op : Operator} {r2 : R2} {g : D → D → Res D} (ho : OpR X (binaryOp op) r2) (hs : OpS c R r2 g) (ha : PE X a (tR c G f1)) (hb : PE X b (tR c G f2)) : PE X (.BinOp a op b pos) (rd c G (dOp g f1 f2) R) :=
  pe_imp (pe_op ho ha hb) (op_rd hs)
theorem de_cmp {R : Md V D} [Anti R] {op : CmpOp} {r2 : R2} {g : D → D → Res D} (ho : OpR X (compareOp op) r2) (hs : OpS c R r2 g) (ha : PE X a (tR c G f1)) (hb : PE X b (tR c G f2)) (hm : behindInMarks op b = false) :
    PE X (.Compare a [op] [b] pos) (rd c G (dOp g f1 f2) R) := pe_imp (pe_cmpR ho ha hb hm) (op_rd hs)
/-- a truth value as a test -/
def asB : D → Res Bool
  | .bl b => .ok b
  | _ => .bad
def dT (f : Rho → Res D) : Rho → Res Bool := fun r => (f r).bind asB
theorem of_asB {σ : St} {S H : Hp} {d : D} {k : Bool → Hp → Hp → Prop} (p : PostG c σ S H (asB d) k) : ∃ b, d = .bl b ∧ PostG c σ S H (.ok b) k := by
  cases d with
  | bl b => exact ⟨b, rfl, p⟩
  | _ => exact p.elim
theorem dt_cmp {op : CmpOp} {r2 : R2} {g : D → D → Res D} (ho : OpR X (compareOp op) r2) (hs : OpS c (mV c) r2 g) (ha : PE X a (tR c G f1)) (hb : PE X b (tR c G f2)) (hm : behindInMarks op b = false) :
    PT X (.Compare a [op] [b] pos) (tT c G (dT (dOp g f1 f2))) := pt_imp (pt_cmpR ho ha hb hm) fun σ H Q ⟨S0, H0, S, r, ok, p⟩ => by
  refine op_rd (G := G) (f1 := f1) (f2 := f2) hs σ H _ (rd_seq ok p fun d v S1 H1 w1 o1 m1 p1 => ?_)
  obtain ⟨b, rfl, p1⟩ := of_asB p1
  cases m1
  exact ⟨b, rfl, p1.go o1.ex _ rfl⟩
/-- an expression whose value is True or False, as a test -/
theorem dt_val (h : PE X e (tV c G f)) (he : ∀ whole, isTrue e X.env whole = (do let v ← whole; standAt e.pos; holding [v] (truthy v)) := by intro _; rfl) : PT X e (tT c G (dT f)) :=
  pt_imp (pt_val h he) fun σ H Q ⟨S0, H0, S, r, ok, p⟩ => rd_seq ok p fun d v S1 H1 w1 o1 m1 p1 => by
    obtain ⟨b, rfl, p1⟩ := of_asB p1
    cases m1
    exact ⟨b, rfl, p1.go o1.ex _ rfl⟩
variable {t1 t2 : Rho → Res Bool} {rest : List Expr}
def dAnd (t u : Rho → Res Bool) : Rho → Res Bool := fun r => (t r).bind fun b => if b = true then u r else .ok false
def dOr (t u : Rho → Res Bool) : Rho → Res Bool := fun r => (t r).bind fun b => if b = true then .ok true else u r
def dNot (t : Rho → Res Bool) : Rho → Res Bool := fun r => (t r).bind fun b => .ok (!b)
def dIf {α : Type} (t : Rho → Res Bool) (f g : Rho → Res α) : Rho → Res α := fun r => (t r).bind fun b => if b = true then f r else g r
theorem pw_imp {t t' : TT} (h : PW X e t) (k : ∀ σ H Q, t' σ H Q → t σ H Q) : PW X e t' := ⟨fun w pins s σ H Q I q => h.run w pins s σ H Q I (k σ H Q q)⟩
theorem dw_and1 (ha : PT X a (tT c G t1)) : PW X (.BoolOp .And [a] pos) (tT c G t1) := pw_and1 ha
theorem dw_or1 (ha : PT X a (tT c G t1)) : PW X (.BoolOp .Or [a] pos) (tT c G t1) := pw_or1 ha
theorem dw_and (ha : PT X a (tT c G t1)) (hb : PW X (.BoolOp .And (b :: rest) pos) (tT c G t2)) : PW X (.BoolOp .And (a :: b :: rest) pos) (tT c G (dAnd t1 t2)) := pw_imp (pw_and ha hb) fun σ H Q ⟨S0, H0, S, r, ok, p⟩ =>
  rd_seq ok p fun x v S1 H1 w1 o1 m1 p1 => by
    rw [show v = x from m1]
    cases x with
    | true => exact ⟨S0, H0, S1, r, o1, p1⟩
    | false => exact p1.go o1.ex _ rfl
theorem dw_or (ha : PT X a (tT c G t1)) (hb : PW X (.BoolOp .Or (b :: rest) pos) (tT c G t2)) : PW X (.BoolOp .Or (a :: b :: rest) pos) (tT c G (dOr t1 t2)) := pw_imp (pw_or ha hb) fun σ H Q ⟨S0, H0, S, r, ok, p⟩ =>
  rd_seq ok p fun x v S1 H1 w1 o1 m1 p1 => by
    rw [show v = x from m1]
    cases x with
    | true => exact p1.go o1.ex _ rfl
    | false => exact ⟨S0, H0, S1, r, o1, p1⟩
theorem dt_not (ha : PT X a (tT c G t1)) : PT X (.UnaryOp .Not a pos) (tT c G (dNot t1)) := pt_imp (pt_not ha) fun σ H Q ⟨S0, H0, S, r, ok, p⟩ =>
  rd_seq ok p fun x v S1 H1 w1 o1 m1 p1 => by
    rw [show v = x from m1]
    exact p1.go o1.ex _ rfl
/-- and, or, not as values: all True or False -/
def dAndV (f g : Rho → Res D) : Rho → Res D := fun r => (f r).bind fun x => (asB x).bind fun b => if b = true then g r else .ok (.bl false)
def dOrV (f g : Rho → Res D) : Rho → Res D := fun r => (f r).bind fun x => (asB x).bind fun b => if b = true then .ok (.bl true) else g r
def dNotV (f : Rho → Res D) : Rho → Res D := fun r => (f r).bind fun x => (asB x).bind fun b => .ok (.bl (!b))
end
end Dx
end S_DxB
section S_DxC
set_option Elab.async false
set_option linter.all false
set_option maxRecDepth 100000
set_option maxHeartbeats 2000000
namespace Dx
open PySem L2
mutual
def toPy : D → Option PyData
  | .non => some .none
  | .bl b => some (.bool b)
  | .int i => some (.int i)
  | .str s => some (.str s)
  | .lst ds => (toPyL ds).map .list
  | .fz ds => (toPyL ds).map .list
  | .tup ds => (toPyL ds).map .tuple
  | .kt ds => (toPyL ds).map .tuple
  | .dk _ _ => none
  | .dt _ _ => none
  | .obj _ _ _ => none
  | .own _ => none
  | .st _ _ => none
def toPyL : List D → Option (List PyData)
  | [] => some []
  | d :: ds => match toPy d, toPyL ds with
    | some p, some ps => some (p :: ps)
    | _, _ => none
end
section
variable {K : PySem.W.Frag} {cm : CM} {S H : Hp}
mutual
theorem Rp.dp (e : Ex S H) : ∀ {v : V} {d : D} {p : PyData}, Rp K cm S v d → toPy d = some p → Dp K H v p
  | _, .non, _, h, q => by cases h; cases q; exact .non
  | _, .bl _, _, h, q => by cases h; cases q; exact .bl _
  | _, .int _, _, h, q => by cases h; cases q; exact .int _
  | _, .str _, _, h, q => by cases h; cases q; exact .str _
  | _, .lst ds, _, h, q => by
    cases h with | lst a r =>
    rw [toPy] at q
    obtain ⟨ps, h1, rfl⟩ := Option.map_eq_some_iff.mp q
    exact .lst (.inl (.inl (e _ _ a))) (RpA.dp e r h1)
  | _, .fz ds, _, h, q => by
    cases h with | fz a r =>
    rw [toPy] at q
    obtain ⟨ps, h1, rfl⟩ := Option.map_eq_some_iff.mp q
    exact .lst (e.l a) (RpA.dp e r h1)
  | _, .tup ds, _, h, q => by
    cases h with | tup a r =>
    rw [toPy] at q
    obtain ⟨ps, h1, rfl⟩ := Option.map_eq_some_iff.mp q
    exact .tup (.inl (.inl (e _ _ a))) (RpA.dp e r h1)
  | _, .kt ds, _, h, q => by
    cases h with | kt a r =>
    rw [toPy] at q
    obtain ⟨ps, h1, rfl⟩ := Option.map_eq_some_iff.mp q
    exact .tup (e.t a) (RpA.dp e r h1)
  | _, .dk _ _, _, h, q => by cases q
  | _, .dt _ _, _, h, q => by cases q
  | _, .obj _ _ _, _, h, q => by cases q
theorem RpA.dp (e : Ex S H) : ∀ {vs : List V} {ds : List D} {ps : List PyData}, RpA K cm S vs ds → toPyL ds = some ps → DpAll K H vs ps
  | _, [], _, h, q => by cases h; cases q; exact .nil
  | _, d :: ds, _, h, q => by
    cases h with | cons a r =>
    rw [toPyL] at q
    cases h1 : toPy d with
    | none => rw [h1] at q; cases q
    | some p =>
      cases h2 : toPyL ds with
      | none => rw [h1, h2] at q; cases q
      | some ps =>
        rw [h1, h2] at q
        cases q
        exact .cons (Rp.dp e a h1) (RpA.dp e r h2)
end
theorem RpB.dp {v : V} {d : D} {p : PyData} (e : Ex S H) (h : RpB K cm S H v d) (q : toPy d = some p) : Dp K H v p := by
  rcases h with h | ⟨a, ho, rfl, h2, h3⟩
  · exact h.dp e q
  · cases h3 with
    | lst r =>
      rw [toPy] at q
      obtain ⟨ps, h1, rfl⟩ := Option.map_eq_some_iff.mp q
      exact .lst (.inl (.inl h2)) (r.dp e h1)
    | dk _ _ => cases q
    | dt _ _ => cases q
    | obj _ _ _ => cases q
end
noncomputable def addD : D → D → Res D
  | .int i, .int j => .ok (.int (i + j))
  | .str a, .str b => guard (a.length + b.length ≤ sizeLine) (.ok (.str (a ++ b)))
  | .tup a, .tup b => guard (a.length + b.length ≤ sizeLine) (.ok (.tup (a ++ b)))
  | .lst a, .lst b => guard (a.length + b.length ≤ sizeLine) (.ok (.lst (a ++ b)))
  | _, _ => .bad
def rAddX (K : PySem.W.Frag) : R2 := fun x y H Q => (rI0 (fun i j => .int (i + j))) x y H Q ∨ (∃ i j, x = .str i ∧ y = .str j ∧ i.length + j.length ≤ sizeLine ∧ Q (.str (i ++ j)) H) ∨ rCatA K x y H Q ∨ rCat x y H Q
section
variable {X : Cx} {c : Cf}
theorem or_add : OpR X (binaryOp .Add) (rAddX X.K) := op_add.or (op_add_str.or (op_catA.or op_cat))
theorem PostG.ite {σ : St} {S H : Hp} {α : Type} {p : Prop} [Decidable p] {x : Res α} {k : α → Hp → Hp → Prop} (h : PostG c σ S H (if p then x else .bad) k) : p ∧ PostG c σ S H x k := by
  by_cases hp : p
  · rw [if_pos hp] at h; exact ⟨hp, h⟩
  · rw [if_neg hp] at h; exact h.elim
theorem os_add : OpS c (mV c) (rAddX c.K) addD := by
  intro σ S H x y d e Q ex hx hy p
  unfold addD at p
  split at p
  · cases hx.int; cases hy.int
    exact .inl ⟨_, _, rfl, rfl, p.here ex (.int _)⟩
  · cases hx.str; cases hy.str
    obtain ⟨hl, p⟩ := p.gd
    exact .inr (.inl ⟨_, _, rfl, rfl, hl, p.here ex (.str _)⟩)
  · obtain ⟨q1, xs, rfl, a1, r1, s1⟩ := hx.tup ex
    obtain ⟨q2, ys, rfl, a2, r2, s2⟩ := hy.tup ex
    obtain ⟨hl, p⟩ := p.gd
    refine .inr (.inr (.inl ⟨_, _, xs, ys, rfl, rfl, a1, a2, by rw [r1.length, r2.length]; exact hl, fun h => ?_, fun _ h => ?_, fun _ _ q hq => ?_⟩))
    · subst h; cases r1; exact p.here ex (.tup s2 r2)
    · subst h; cases r2; rw [List.append_nil] at p; exact p.here ex (.tup s1 r1)
    · exact p.laid ex hq (.tup upd_same ((r1.app r2).mono (Ex.new (ex.nn hq))))
  · obtain ⟨q1, xs, rfl, a1, r1⟩ := hx.list ex
    obtain ⟨q2, ys, rfl, a2, r2⟩ := hy.list ex
    obtain ⟨hl, p⟩ := p.gd
    refine .inr (.inr (.inr ⟨_, _, xs, ys, rfl, rfl, a1, a2, by rw [r1.length, r2.length]; exact hl, fun q hq => ?_⟩))
    exact p.laid ex hq (.lst upd_same ((r1.app r2).mono (Ex.new (ex.nn hq))))
  · exact p.elim
/-- list + list, the new list one's own -/
noncomputable def addL : D → D → Res D
  | .lst a, .lst b => guard (a.length + b.length ≤ sizeLine) (.ok (.lst (a ++ b)))
  | _, _ => .bad
def subD : D → D → Res D
  | .int i, .int j => .ok (.int (i - j))
  | _, _ => .bad
theorem os_sub : OpS c (mV c) (rI0 fun i j => .int (i - j)) subD := by
  intro σ S H x y d e Q ex hx hy p
  unfold subD at p
  split at p
  · cases hx.int; cases hy.int
    exact ⟨_, _, rfl, rfl, p.here ex (.int _)⟩
  · exact p.elim
def smallI (i : Int) : Prop := -(2 ^ 64) < i ∧ i < 2 ^ 64
theorem RpA.rep {K : PySem.W.Frag} {cm : CM} {S : Hp} {vs : List V} {ds : List D} (h : RpA K cm S vs ds) : ∀ n : Nat, RpA K cm S (List.replicate n vs).flatten (List.replicate n ds).flatten
  | 0 => .nil
  | n + 1 => by rw [List.replicate_succ, List.replicate_succ, List.flatten_cons, List.flatten_cons]; exact h.app (RpA.rep h n)
noncomputable def mulD : D → D → Res D
  | .int i, .int j => guard (smallI i ∨ smallI j) (.ok (.int (i * j)))
  | .lst a, .int k => guard (0 ≤ k ∧ k < 2 ^ 60 ∧ a.length * k.toNat ≤ sizeLine) (.ok (.lst (List.replicate k.toNat a).flatten))
  | _, _ => .bad
def rMulX : R2 := fun x y H Q => (rI CMul (fun i j => .int (i * j))) x y H Q ∨ rRep x y H Q
theorem or_mul : OpR X (binaryOp .Mult) rMulX := op_mul.or op_rep
theorem os_mul : OpS c (mV c) rMulX mulD := by
  intro σ S H x y d e Q ex hx hy p
  unfold mulD at p
  split at p
  · cases hx.int; cases hy.int
    obtain ⟨hl, p⟩ := p.gd
    exact .inl ⟨_, _, rfl, rfl, hl, p.here ex (.int _)⟩
  · obtain ⟨q1, xs, rfl, a1, r1⟩ := hx.list ex
    cases hy.int
    obtain ⟨⟨h0, h1, h2⟩, p⟩ := p.gd
    refine .inr ⟨_, _, xs, rfl, rfl, a1, by omega, by omega, by rw [r1.length]; exact h2, fun q hq => ?_⟩
    exact p.laid ex hq (.lst upd_same ((r1.rep _).mono (Ex.new (ex.nn hq))))
  · exact p.elim
noncomputable def fdivD : D → D → Res D
  | .int i, .int j => if 0 < j then guard (j < 4611686018427387904) (.ok (.int (i / j))) else guard (j ≠ 0 ∧ j.natAbs < 1073741824) (.ok (.int (i.fdiv j)))
  | _, _ => .bad
def rFdivX : R2 := fun x y H Q => (rI CDivW (fun i j => .int (i / j))) x y H Q ∨ (rI CDivN (fun i j => .int (i.fdiv j))) x y H Q
theorem or_fdiv : OpR X (binaryOp .FloorDiv) rFdivX := op_fdivW.or op_fdivN
theorem os_fdiv : OpS c (mV c) rFdivX fdivD := by
  intro σ S H x y d e Q ex hx hy p
  unfold fdivD at p
  split at p
  · cases hx.int; cases hy.int
    split at p
    · rename_i h
      obtain ⟨h2, p⟩ := p.gd
      exact .inl ⟨_, _, rfl, rfl, wide_div (b := 62) h (by omega) (by decide) (by decide), p.here ex (.int _)⟩
    · obtain ⟨h, p⟩ := p.gd
      exact .inr ⟨_, _, rfl, rfl, h, p.here ex (.int _)⟩
  · exact p.elim
noncomputable def modD : D → D → Res D
  | .int i, .int j => guard (0 < j) (.ok (.int (i % j)))
  | _, _ => .bad
theorem os_mod : OpS c (mV c) (rI (fun _ j => 0 < j) fun i j => .int (i % j)) modD := by
  intro σ S H x y d e Q ex hx hy p
  unfold modD at p
  split at p
  · cases hx.int; cases hy.int
    obtain ⟨h, p⟩ := p.gd
    exact ⟨_, _, rfl, rfl, h, p.here ex (.int _)⟩
  · exact p.elim
def intsD (g : Int → Int → Int) : D → D → Res D
  | .int i, .int j => .ok (.int (g i j))
  | _, _ => .bad
def eqFlat : D → D → Option Bool
  | .int i, .int j => some (decide (i = j))
  | .str a, .str b => some (decide (a = b))
  | .bl a, .bl b => some (decide (a = b))
  | .non, .non => some true
  | .non, .int _ => some false
  | .non, .bl _ => some false
  | .non, .str _ => some false
  | .int _, .non => some false
  | .bl _, .non => some false
  | .str _, .non => some false
  | .int _, .str _ => some false
  | .str _, .int _ => some false
  | .bl _, .str _ => some false
  | .str _, .bl _ => some false
  | _, _ => none
def eqDeep (d e : D) : Res Bool := match toPy d, toPy e with
  | some p, some q => if SeqAt.shaped p = true ∧ SeqAt.shaped q = true then .ok (PyData.eqv p q) else .bad
  | _, _ => .bad
def eqB (d e : D) : Res Bool := match eqFlat d e with
  | some b => .ok b
  | none => eqDeep d e
def eqD (d e : D) : Res D := (eqB d e).bind fun b => .ok (.bl b)
def neD (d e : D) : Res D := (eqB d e).bind fun b => .ok (.bl (!b))
theorem of_eqDeep {σ : St} {S H : Hp} {x y : V} {d e : D} {g : Bool → Res D} {k : D → Hp → Hp → Prop} (ex : Ex S H) (hx : RpB c.K c.cm S H x d) (hy : RpB c.K c.cm S H y e) (p : PostG c σ S H ((eqDeep d e).bind g) k) :
    ∃ u v, Dp c.K H x u ∧ Dp c.K H y v ∧ SeqAt.shaped u = true ∧ SeqAt.shaped v = true ∧ PostG c σ S H (g (PyData.eqv u v)) k := by
  unfold eqDeep at p
  split at p
  · rename_i u v h1 h2
    by_cases hs : SeqAt.shaped u = true ∧ SeqAt.shaped v = true
    · rw [if_pos hs] at p
      exact ⟨u, v, hx.dp ex h1, hy.dp ex h2, hs.1, hs.2, p⟩
    · rw [if_neg hs] at p
      exact p.elim
  · exact p.elim
theorem of_eqFlat {S H : Hp} {x y : V} {d e : D} {b : Bool} (hx : RpB c.K c.cm S H x d) (hy : RpB c.K c.cm S H y e) (h : eqFlat d e = some b) : scal x y = true ∧ decide (x = y) = b := by
  unfold eqFlat at h
  split at h
  · cases hx.int; cases hy.int; cases h; exact ⟨rfl, by simp⟩
  · cases hx.str; cases hy.str; cases h; exact ⟨rfl, by simp⟩
  · cases hx.bl; cases hy.bl; cases h; exact ⟨rfl, by simp⟩
  · cases hx.non; cases hy.non; cases h; exact ⟨rfl, rfl⟩
  · cases hx.non; cases hy.int; cases h; exact ⟨rfl, rfl⟩
  · cases hx.non; cases hy.bl; cases h; exact ⟨rfl, rfl⟩
  · cases hx.non; cases hy.str; cases h; exact ⟨rfl, rfl⟩
  · cases hx.int; cases hy.non; cases h; exact ⟨rfl, rfl⟩
  · cases hx.bl; cases hy.non; cases h; exact ⟨rfl, rfl⟩
  · cases hx.str; cases hy.non; cases h; exact ⟨rfl, rfl⟩
  · cases hx.int; cases hy.str; cases h; exact ⟨rfl, rfl⟩
  · cases hx.str; cases hy.int; cases h; exact ⟨rfl, rfl⟩
  · cases hx.bl; cases hy.str; cases h; exact ⟨rfl, rfl⟩
  · cases hx.str; cases hy.bl; cases h; exact ⟨rfl, rfl⟩
  · cases h
def rEqX (K : PySem.W.Frag) : R2 := fun x y H Q => rEq x y H Q ∨ rEqD K x y H Q
def rNeX (K : PySem.W.Frag) : R2 := fun x y H Q => rNe x y H Q ∨ rNeD K x y H Q
theorem or_eq (hu : X.A.units + 64 < cLine) : OpR X (compareOp .Eq) (rEqX X.K) := op_eq.or (op_eqD hu)
theorem or_ne (hu : X.A.units + 64 < cLine) : OpR X (compareOp .NotEq) (rNeX X.K) := op_ne.or (op_neD hu)
theorem os_eq : OpS c (mV c) (rEqX c.K) eqD := by
  intro σ S H x y d e Q ex hx hy p
  unfold eqD eqB at p
  split at p
  · rename_i b hb
    obtain ⟨h1, h2⟩ := of_eqFlat hx hy hb
    refine .inl ⟨h1, ?_⟩
    rw [h2]; exact p.here ex (.bl _)
  · obtain ⟨u, v, h1, h2, h3, h4, p⟩ := of_eqDeep ex hx hy p
    exact .inr ⟨u, v, h1, h2, h3, h4, p.here ex (.bl _)⟩
theorem os_ne : OpS c (mV c) (rNeX c.K) neD := by
  intro σ S H x y d e Q ex hx hy p
  unfold neD eqB at p
  split at p
  · rename_i b hb
    obtain ⟨h1, h2⟩ := of_eqFlat hx hy hb
    refine .inl ⟨h1, ?_⟩
    rw [h2]; exact p.here ex (.bl _)
  · obtain ⟨u, v, h1, h2, h3, h4, p⟩ := of_eqDeep ex hx hy p
    exact .inr ⟨u, v, h1, h2, h3, h4, p.here ex (.bl _)⟩
/-- by ints, by texts -/
def ordD (g : Int → Int → Bool) (h : Str → Str → Bool) : D → D → Res D
  | .int i, .int j => .ok (.bl (g i j))
  | .str a, .str b => .ok (.bl (h a b))
  | _, _ => .bad
def rOrd (g : Int → Int → Bool) (h : Str → Str → Bool) : R2 := fun x y H Q => (rI0 fun i j => .bl (g i j)) x y H Q ∨ ∃ i j, x = .str i ∧ y = .str j ∧ Q (.bl (h i j)) H
theorem os_ord {g : Int → Int → Bool} {h : Str → Str → Bool} : OpS c (mV c) (rOrd g h) (ordD g h) := by
  intro σ S H x y d e Q ex hx hy p
  unfold ordD at p
  split at p
  · cases hx.int; cases hy.int
    exact .inl ⟨_, _, rfl, rfl, p.here ex (.bl _)⟩
  · cases hx.str; cases hy.str
    exact .inr ⟨_, _, rfl, rfl, p.here ex (.bl _)⟩
  · exact p.elim
abbrev ltD : D → D → Res D := ordD (fun i j => decide (i < j)) fun i j => decide (i.cps.toList < j.cps.toList)
abbrev leD : D → D → Res D := ordD (fun i j => decide (i ≤ j)) fun i j => !decide (j.cps.toList < i.cps.toList)
abbrev gtD : D → D → Res D := ordD (fun i j => decide (j < i)) fun i j => decide (j.cps.toList < i.cps.toList)
abbrev geD : D → D → Res D := ordD (fun i j => decide (j ≤ i)) fun i j => !decide (i.cps.toList < j.cps.toList)
theorem or_lt : OpR X (compareOp .Lt) (rOrd (fun i j => decide (i < j)) fun i j => decide (i.cps.toList < j.cps.toList)) := op_lt.or op_lt_str
theorem or_le : OpR X (compareOp .LtE) (rOrd (fun i j => decide (i ≤ j)) fun i j => !decide (j.cps.toList < i.cps.toList)) := op_le.or op_le_str
theorem or_gt : OpR X (compareOp .Gt) (rOrd (fun i j => decide (j < i)) fun i j => decide (j.cps.toList < i.cps.toList)) := op_gt.or op_gt_str
theorem or_ge : OpR X (compareOp .GtE) (rOrd (fun i j => decide (j ≤ i)) fun i j => !decide (i.cps.toList < j.cps.toList)) := op_ge.or op_ge_str
/-- is None, is not None -/
def isN : D → Bool
  | .non => true
  | _ => false
def isD (neg : Bool) (d e : D) : Res D := if isN e = true then .ok (.bl (if neg then !isN d else isN d)) else .bad
theorem RpB.isN {K : PySem.W.Frag} {cm : CM} {S H : Hp} {v : V} {d : D} (h : RpB K cm S H v d) : decide (v = .non) = isN d := by
  rcases h with h | ⟨p, ho, rfl, h2, h3⟩
  · cases h <;> rfl
  · cases h3 <;> rfl
theorem os_is : OpS c (mV c) (fun x y H Q => y = .non ∧ Q (.bl (decide (x = .non))) H) (isD false) := by
  intro σ S H x y d e Q ex hx hy p
  obtain ⟨h, p⟩ := p.ite
  rw [hx.isN]
  refine ⟨of_decide_eq_true (hy.isN.trans h), p.here ex (.bl _)⟩
/-- x in: a list of data, a text in a text, a flat thing in a tuple of flat things -/
def flatD : D → Option V
  | .non => some .non
  | .bl b => some (.bl b)
  | .int i => some (.int i)
  | .str s => some (.str s)
  | _ => none
def flatDs : List D → Option (List V)
  | [] => some []
  | d :: ds => match flatD d, flatDs ds with
    | some v, some vs => some (v :: vs)
    | _, _ => none
def inDeep (d : D) (ds : List D) : Res Bool := match toPy d, toPyL ds with
  | some p, some ps => if SeqAt.shaped p = true ∧ SeqAt.shaped (.list ps) = true then .ok (ps.any fun z => PyData.eqv z p) else .bad
  | _, _ => .bad
def inFlat (d : D) (ds : List D) : Option Bool := match flatD d, flatDs ds with
  | some v, some vs => some (inV v vs)
  | _, _ => none
def inLst (d : D) (ds : List D) : Res Bool := match inFlat d ds with
  | some b => .ok b
  | none => inDeep d ds
def inTup (d : D) (ds : List D) : Res Bool := match inFlat d ds with
  | some b => .ok b
  | none => .bad
def inStr (a b : Str) : Bool := match a.cps.toList with
  | [n] => decide (n ∈ b.cps.toList)
  | _ => !(Builtin.Str.occurrences b a 0 b.length 1).isEmpty
def inB : D → D → Res Bool
  | d, .lst ds => inLst d ds
  | d, .fz ds => inLst d ds
  | d, .tup ds => inTup d ds
  | .str a, .str b => .ok (inStr a b)
  | _, _ => .bad
def inD (d e : D) : Res D := (inB d e).bind fun b => .ok (.bl b)
def ninD (d e : D) : Res D := (inB d e).bind fun b => .ok (.bl (!b))
theorem RpB.flat {K : PySem.W.Frag} {cm : CM} {S H : Hp} {v u : V} {d : D} (h : RpB K cm S H v d) (q : flatD d = some u) : v = u ∧ flatV u = true := by
  rcases h with h | ⟨p, ho, rfl, h2, h3⟩
  · cases h <;> first | (cases q; exact ⟨rfl, rfl⟩) | cases q
  · cases h3 <;> cases q
theorem RpA.flat {K : PySem.W.Frag} {cm : CM} {S : Hp} : ∀ {vs us : List V} {ds : List D}, RpA K cm S vs ds → flatDs ds = some us → vs = us ∧ us.all flatV = true
  | _, _, [], h, q => by cases h; cases q; exact ⟨rfl, rfl⟩
  | _, _, d :: ds, h, q => by
    cases h with | cons a r =>
    rw [flatDs] at q
    cases h1 : flatD d with
    | none => rw [h1] at q; cases q
    | some u =>
      cases h2 : flatDs ds with
      | none => rw [h1, h2] at q; cases q
      | some us =>
        rw [h1, h2] at q
        cases q
        obtain ⟨rfl, z1⟩ := RpB.flat (H := S) (.inl a) h1
        obtain ⟨rfl, z2⟩ := RpA.flat r h2
        exact ⟨rfl, by simp [z1, z2]⟩
def rInX (K : PySem.W.Frag) (neg : Bool) : R2 := fun x y H Q => (∃ d ds, Dp K H x d ∧ Dp K H y (.list ds) ∧ SeqAt.shaped d = true ∧ SeqAt.shaped (.list ds) = true ∧ Q (.bl (if neg then !ds.any fun z => PyData.eqv z d else ds.any fun z => PyData.eqv z d)) H) ∨
  rIn K neg x y H Q ∨ (∃ i j, x = .str i ∧ y = .str j ∧ Q (.bl (if neg then !(!(Builtin.Str.occurrences j i 0 j.length 1).isEmpty) else !(Builtin.Str.occurrences j i 0 j.length 1).isEmpty)) H) ∨
  ∃ (n : Nat) (z : Str), x = .str ⟨#[n]⟩ ∧ y = .str z ∧ Q (.bl (if neg then !decide (n ∈ z.cps.toList) else decide (n ∈ z.cps.toList))) H
theorem or_nin (hu : X.A.units + 65 < cLine) : OpR X (compareOp .NotIn) (rInX X.K true) := (op_notInD hu).or (op_notIn_seq.or (op_notIn_str.or op_notIn_sign))
theorem of_inFlat {S H : Hp} {x : V} {d : D} {xs : List V} {ds : List D} {b : Bool} (hx : RpB c.K c.cm S H x d) (r1 : RpA c.K c.cm S xs ds) (h : inFlat d ds = some b) : flatV x = true ∧ xs.all flatV = true ∧ inV x xs = b := by
  unfold inFlat at h
  split at h
  · rename_i v vs h1 h2
    obtain ⟨rfl, z1⟩ := hx.flat h1
    obtain ⟨rfl, z2⟩ := r1.flat h2
    cases h
    exact ⟨z1, z2, rfl⟩
  · cases h
theorem of_inLst {σ : St} {S H : Hp} {x y : V} {d : D} {ds : List D} {neg : Bool} {Q : VK} {q : Addr} {xs : List V} (ex : Ex S H) (hx : RpB c.K c.cm S H x d) (hy : y = .ref q) (a1 : SqL c.K H q xs) (r1 : RpA c.K c.cm S xs ds) (hd : ∀ ps, toPyL ds = some ps → Dp c.K H y (.list ps))
    (p : PostG c σ S H ((inLst d ds).bind fun b => .ok (.bl (if neg then !b else b))) fun a S' H' => ∀ b, mV c H S' H' b a → Q b H') : rInX c.K neg x y H Q := by
  unfold inLst at p
  split at p
  · rename_i b hb
    obtain ⟨z1, z2, z3⟩ := of_inFlat hx r1 hb
    refine .inr (.inl ⟨q, xs, hy, .inl a1, z1, z2, ?_⟩)
    rw [z3]; exact p.here ex (.bl _)
  · unfold inDeep at p
    split at p
    · rename_i p' ps h1 h2
      by_cases hs : SeqAt.shaped p' = true ∧ SeqAt.shaped (.list ps) = true
      · rw [if_pos hs] at p
        exact .inl ⟨p', ps, hx.dp ex h1, hd ps h2, hs.1, hs.2, p.here ex (.bl _)⟩
      · rw [if_neg hs] at p; exact p.elim
    · exact p.elim
theorem of_inB {σ : St} {S H : Hp} {x y : V} {d e : D} {neg : Bool} {Q : VK} (ex : Ex S H) (hx : RpB c.K c.cm S H x d) (hy : RpB c.K c.cm S H y e)
    (p : PostG c σ S H ((inB d e).bind fun b => .ok (.bl (if neg then !b else b))) fun a S' H' => ∀ b, mV c H S' H' b a → Q b H') : rInX c.K neg x y H Q := by
  unfold inB at p
  split at p
  · obtain ⟨q, xs, hq, a1, r1⟩ := hy.list ex
    exact of_inLst ex hx hq (.inl (.inl a1)) r1 (fun ps h => hy.dp ex (by rw [toPy, h]; rfl)) p
  · obtain ⟨q, xs, hq, a1, r1⟩ := hy.fz ex
    exact of_inLst ex hx hq a1 r1 (fun ps h => hy.dp ex (by rw [toPy, h]; rfl)) p
  · unfold inTup at p
    split at p
    · rename_i b hb
      obtain ⟨q, xs, rfl, a1, r1, s1⟩ := hy.tup ex
      obtain ⟨z1, z2, z3⟩ := of_inFlat hx r1 hb
      refine .inr (.inl ⟨q, xs, rfl, .inr a1, z1, z2, ?_⟩)
      rw [z3]; exact p.here ex (.bl _)
    · exact p.elim
  · rename_i a b
    cases hx.str; cases hy.str
    unfold inStr at p
    split at p
    · rename_i n hn
      have ha : a = ⟨#[n]⟩ := Str.ext' (Array.toList_inj.mp (by rw [hn]))
      exact .inr (.inr (.inr ⟨n, b, by rw [ha], rfl, p.here ex (.bl _)⟩))
    · exact .inr (.inr (.inl ⟨_, _, rfl, rfl, p.here ex (.bl _)⟩))
  · exact p.elim
theorem os_nin : OpS c (mV c) (rInX c.K true) ninD := fun σ S H x y d e Q ex hx hy p => of_inB (neg := true) ex hx hy p
end
end Dx
end S_DxC
section S_DxD
set_option Elab.async false
set_option linter.all false
set_option maxRecDepth 100000
set_option maxHeartbeats 2000000
namespace Dx
open PySem L2
section
variable {X : Cx} {c : Cf} {G : List Ow} {f f1 f2 f3 : Rho → Res D} {a b e : Expr} {es : List Expr} {pos p : Pos} {fs : Rho → Res (List D)}
def dChain (g g' : D → D → Res D) (f1 f2 f3 : Rho → Res D) : Rho → Res D := fun r => (f1 r).bind fun x => (f2 r).bind fun y => (g x y).bind fun z => (asB z).bind fun k => if k = true then (f3 r).bind fun w => g' y w else .ok (.bl false)
theorem chain_rd {r2 r2' : R2} {g g' : D → D → Res D} (hs : OpS c (mV c) r2 g) (hs' : OpS c (mV c) r2' g') : ∀ σ H Q, tV c G (dChain g g' f1 f2 f3) σ H Q → tChain r2 r2' (tR c G f1) (tR c G f2) (tR c G f3) σ H Q := fun σ H Q ⟨S0, H0, S, r, ok, p⟩ =>
  rd_seq ok p fun x v S1 H1 w1 o1 m1 p1 => rd_seq o1 p1 fun y u S2 H2 w2 o2 m2 p2 => hs σ S2 H2 v u x y _ o2.ex (RpB.mono m1 w2.s w2.h) m2 (p2.unbind.imp fun z S3 H3 w3 p3 bz hz => by
    obtain ⟨k, rfl, q3⟩ := of_asB (PostG.imp p3.unbind fun _ _ _ _ h => h)
    cases hz
    refine ⟨k, rfl, ?_⟩
    have o3 := o2.go w3
    have p4 := q3.go o3.ex
    cases k with
    | true => exact rd_seq o3 p4 fun w u' S4 H4 w4 o4 m4 p5 => hs' σ S4 H4 u u' y w Q o4.ex (RpB.mono m2 (w3.s.trans w4.s) (w3.h.trans w4.h)) m4 p5
    | false => exact p4.go o3.ex _ (.bl _))
theorem dt_chain {op op' : CmpOp} {r2 r2' : R2} {g g' : D → D → Res D} {e3 : Expr} (ho : OpR X (compareOp op) r2) (hs : OpS c (mV c) r2 g) (ho' : OpR X (compareOp op') r2') (hs' : OpS c (mV c) r2' g') (ha : PE X a (tR c G f1)) (hb : PE X b (tR c G f2)) (hc : PE X e3 (tR c G f3))
    (hm : lastMarks [op, op'] [b, e3] = false := by with_unfolding_all rfl) : PT X (.Compare a [op, op'] [b, e3] pos) (tT c G (dT (dChain g g' f1 f2 f3))) := pt_imp (pt_chain ho ho' ha hb hc hm) fun σ H Q ⟨S0, H0, S, r, ok, p⟩ => by
  refine chain_rd (G := G) hs hs' σ H _ (rd_seq ok p fun d v S1 H1 w1 o1 m1 p1 => ?_)
  obtain ⟨b, rfl, p1⟩ := of_asB p1
  cases m1
  exact ⟨b, rfl, p1.go o1.ex _ rfl⟩
def negD : D → Res D
  | .int i => .ok (.int (-i))
  | _ => .bad
def dUn (g : D → Res D) (f : Rho → Res D) : Rho → Res D := fun r => (f r).bind g
theorem de_one {op : BoolOp} (h : PE X a (tV c G f)) : PE X (.BoolOp op [a] pos) (tV c G f) := pe_one h
theorem de_and {rest : List Expr} (ha : PE X a (tV c G f1)) (hb : PE X (.BoolOp .And (b :: rest) pos) (tV c G f2)) : PE X (.BoolOp .And (a :: b :: rest) pos) (tV c G (dAndV f1 f2)) := pe_imp (pe_and ha hb) fun σ H Q ⟨S0, H0, S, r, ok, p⟩ =>
  rd_seq ok p fun d v S1 H1 w1 o1 m1 p1 => by
    obtain ⟨k, rfl, q1⟩ := of_asB (p1.unbind)
    cases m1
    refine ⟨k, rfl, ?_⟩
    have p2 := q1.go o1.ex
    cases k with
    | true => exact ⟨S0, H0, S1, r, o1, p2⟩
    | false => exact p2.go o1.ex _ (.bl _)
theorem de_not (ha : PE X a (tV c G f)) : PE X (.UnaryOp .Not a pos) (tV c G (dNotV f)) := pe_imp (pe_not ha) fun σ H Q ⟨S0, H0, S, r, ok, p⟩ =>
  rd_seq ok p fun d v S1 H1 w1 o1 m1 p1 => by
    obtain ⟨k, rfl, q1⟩ := of_asB (p1.unbind)
    cases m1
    exact ⟨k, rfl, (q1.go o1.ex).go o1.ex _ (.bl _)⟩
def dNil : Rho → Res (List D) := fun _ => .ok []
def dCons (f : Rho → Res D) (g : Rho → Res (List D)) : Rho → Res (List D) := fun r => (f r).bind fun x => (g r).bind fun xs => .ok (x :: xs)
/-- with a mode for each: true, a thing that is only read -/
def RpM (c : Cf) (S H : Hp) : List Bool → List V → List D → Prop
  | [], [], [] => True
  | true :: ms, v :: vs, d :: ds => RpB c.K c.cm S H v d ∧ RpM c S H ms vs ds
  | false :: ms, v :: vs, d :: ds => Rp c.K c.cm S v d ∧ RpM c S H ms vs ds
  | _, _, _ => False
theorem RpM.mono {S H S' H' : Hp} (e : Ex S S') (e' : Ex H H') : ∀ {ms : List Bool} {vs : List V} {ds : List D}, RpM c S H ms vs ds → RpM c S' H' ms vs ds
  | [], [], [], _ => trivial
  | true :: ms, v :: vs, d :: ds, h => ⟨h.1.mono e e', RpM.mono e e' h.2⟩
  | false :: ms, v :: vs, d :: ds, h => ⟨h.1.mono e, RpM.mono e e' h.2⟩
  | [], _ :: _, _, h => h.elim
  | [], [], _ :: _, h => h.elim
  | true :: _, [], _, h => h.elim
  | true :: _, _ :: _, [], h => h.elim
  | false :: _, [], _, h => h.elim
  | false :: _, _ :: _, [], h => h.elim
def mM (c : Cf) (ms : List Bool) : Md (List V) (List D) := fun _ S' H' vs ds => RpM c S' H' ms vs ds
instance {ms : List Bool} : Anti (mM c ms) := ⟨fun _ h => h⟩
abbrev tM (c : Cf) (G : List Ow) (ms : List Bool) (f : Rho → Res (List D)) : TA := rd c G f (mM c ms)
theorem dm_nil : PA X [] (tM c G [] dNil) := pa_imp pa_nil fun σ H Q ⟨S0, H0, S, r, ok, p⟩ => p.go ok.ex _ trivial
theorem dm_bor {ms : List Bool} (ha : PE X e (tR c G f)) (hr : PA X es (tM c G ms fs)) (hs : starEach (e :: es) X.env = (false, eval e X.env) :: starEach es X.env := by rfl) : PA X (e :: es) (tM c G (true :: ms) (dCons f fs)) :=
  pa_imp (pa_cons ha hr hs) fun σ H Q ⟨S0, H0, S, r, ok, p⟩ => rd_seq ok p fun x v S1 H1 w1 o1 m1 p1 => rd_seq o1 p1 fun xs vs S2 H2 w2 o2 m2 p2 => p2.go o2.ex _ ⟨RpB.mono m1 w2.s w2.h, m2⟩
theorem dm_val {ms : List Bool} (ha : PE X e (tV c G f)) (hr : PA X es (tM c G ms fs)) (hs : starEach (e :: es) X.env = (false, eval e X.env) :: starEach es X.env := by rfl) : PA X (e :: es) (tM c G (false :: ms) (dCons f fs)) :=
  pa_imp (pa_cons ha hr hs) fun σ H Q ⟨S0, H0, S, r, ok, p⟩ => rd_seq ok p fun x v S1 H1 w1 o1 m1 p1 => rd_seq o1 p1 fun xs vs S2 H2 w2 o2 m2 p2 => p2.go o2.ex _ ⟨Rp.mono w2.s m1, m2⟩
theorem da_nil : PA X [] (tAs c G dNil) := pa_imp pa_nil fun σ H Q ⟨S0, H0, S, r, ok, p⟩ => p.go ok.ex _ .nil
theorem da_cons (ha : PE X e (tV c G f)) (hr : PA X es (tAs c G fs)) (hs : starEach (e :: es) X.env = (false, eval e X.env) :: starEach es X.env := by rfl) : PA X (e :: es) (tAs c G (dCons f fs)) :=
  pa_imp (pa_cons ha hr hs) fun σ H Q ⟨S0, H0, S, r, ok, p⟩ => rd_seq ok p fun x v S1 H1 w1 o1 m1 p1 => rd_seq o1 p1 fun xs vs S2 H2 w2 o2 m2 p2 => p2.go o2.ex _ (.cons (Rp.mono w2.s m1) m2)
noncomputable def mkTup (ds : List D) : Res D := guard (ds.length ≤ sizeLine) (.ok (.tup ds))
noncomputable def mkLst (ds : List D) : Res D := guard (ds.length ≤ sizeLine) (.ok (.lst ds))
noncomputable def dTup (g : Rho → Res (List D)) : Rho → Res D := fun r => (g r).bind mkTup
noncomputable def dLst (g : Rho → Res (List D)) : Rho → Res D := fun r => (g r).bind mkLst
theorem de_tup {k : Nat} (h : PA X es (tAs c G fs)) : PE X (.Tuple es k pos) (tV c G (dTup fs)) := pe_imp (pe_tup h) fun σ H Q ⟨S0, H0, S, r, ok, p⟩ => rd_seq ok p fun ds vs S1 H1 w1 o1 m1 p1 => by
  obtain ⟨hl, p1⟩ := p1.gd
  exact ⟨by rw [RpA.length m1]; exact hl, fun q hq => p1.laid o1.ex hq (.tup upd_same (RpA.mono (Ex.new (o1.ex.nn hq)) m1))⟩
theorem de_lst (h : PA X es (tAs c G fs)) : PE X (.List es pos) (tO c G (dLst fs)) := pe_imp (pe_lst h) fun σ H Q ⟨S0, H0, S, r, ok, p⟩ => rd_seq ok p fun ds vs S1 H1 w1 o1 m1 p1 => by
  obtain ⟨hl, p1⟩ := p1.gd
  exact ⟨by rw [RpA.length m1]; exact hl, fun q hq => (p1.anti w1.h).kept o1.ex hq (.lst m1)⟩
def CallS (c : Cf) (R : Md V D) (r : List V → Hp → VK → Prop) (ms : List Bool) (g : List D → Res D) : Prop := ∀ (σ : St) (S H : Hp) (vs : List V) (ds : List D) (Q : VK), Ex S H → RpM c S H ms vs ds →
  PostG c σ S H (g ds) (fun a S' H' => ∀ b, R H S' H' b a → Q b H') → r vs H Q
def dCall (g : List D → Res D) (fs : Rho → Res (List D)) : Rho → Res D := fun r => (fs r).bind g
theorem de_bltn {R : Md V D} [Anti R] {x : Str} {id : String} {ms : List Bool} {r : List V → Hp → VK → Prop} {g : List D → Res D} (hc : CallR X (.builtin id) r) (hs : CallS c R r ms g) (hg : Gl X x) (hm : X.mg x = none) (hv : bootBuiltins x = some (.builtin id)) (ha : PA X (e :: es) (tM c G ms fs))
    (hn : x ≠ "__name__" := by decide) (hdb : (x == ("__debug__" : Str)) = false := by decide) (he : starEach (e :: es) X.env = (false, eval e X.env) :: starEach es X.env := by rfl) (hpl : (backTo pos (starEach es X.env)).any (·.1) = false := by rfl) :
    PE X (.Call (.Name x p) (e :: es) [] pos) (rd c G (dCall g fs) R) := pe_imp (pe_callB hc hg hm hv ha hn hdb he hpl) fun σ H Q ⟨S0, H0, S, r, ok, p⟩ => rd_seq ok p fun ds vs S1 H1 w1 o1 m1 p1 => hs σ S1 H1 vs ds Q o1.ex m1 (p1.anti w1.h)
theorem de_type {R : Md V D} [Anti R] {x : Str} {T : String} {ms : List Bool} {r : List V → Hp → VK → Prop} {g : List D → Res D} (hc : CallR X (.type T) r) (hs : CallS c R r ms g) (hg : Gl X x) (hm : X.mg x = none) (hv : bootBuiltins x = some (.type T)) (ha : PA X (e :: es) (tM c G ms fs))
    (hn : x ≠ "__name__" := by decide) (hdb : (x == ("__debug__" : Str)) = false := by decide) (he : starEach (e :: es) X.env = (false, eval e X.env) :: starEach es X.env := by rfl) (hpl : (backTo pos (starEach es X.env)).any (·.1) = false := by rfl) :
    PE X (.Call (.Name x p) (e :: es) [] pos) (rd c G (dCall g fs) R) := pe_imp (pe_callTy hc hg hm hv ha hn hdb he hpl) fun σ H Q ⟨S0, H0, S, r, ok, p⟩ => rd_seq ok p fun ds vs S1 H1 w1 o1 m1 p1 => hs σ S1 H1 vs ds Q o1.ex m1 (p1.anti w1.h)
theorem RpM.one {S H : Hp} {vs : List V} {ds : List D} (h : RpM c S H [true] vs ds) : ∃ v d, vs = [v] ∧ ds = [d] ∧ RpB c.K c.cm S H v d := by
  match vs, ds, h with
  | [v], [d], h => exact ⟨v, d, rfl, rfl, h.1⟩
  | _ :: _ :: _, [_], h => exact h.2.elim
  | [_], _ :: _ :: _, h => exact h.2.elim
  | _ :: _ :: _, _ :: _ :: _, h => exact h.2.elim
  | [], _, h => exact h.elim
  | _ :: _, [], h => exact h.elim
/-- len -/
noncomputable def lenD : D → Res D
  | .str z => guard (z.length ≤ sizeLine) (.ok (.int z.length))
  | .lst ds => .ok (.int ds.length)
  | .fz ds => .ok (.int ds.length)
  | .tup ds => .ok (.int ds.length)
  | .kt ds => .ok (.int ds.length)
  | _ => .bad
def g1 (g : D → Res D) : List D → Res D
  | [d] => g d
  | _ => .bad
def g2 (g : D → D → Res D) : List D → Res D
  | [d, e] => g d e
  | _ => .bad
theorem cs_len : CallS c (mV c) (fun xs H Q => ∃ x n, xs = [x] ∧ LenV c.K x H n ∧ Q (.int n) H) [true] (g1 lenD) := by
  intro σ S H vs ds Q ex m p
  obtain ⟨v, d, rfl, rfl, h⟩ := m.one
  cases d with
  | str z =>
    obtain ⟨hl, p⟩ := p.gd
    cases h.str
    exact ⟨_, _, rfl, ⟨hl, rfl⟩, p.here ex (.int _)⟩
  | lst ds =>
    obtain ⟨q, xs, rfl, a1, r1⟩ := h.list ex
    exact ⟨_, _, rfl, .inl ⟨xs, .inl (.inl a1), r1.length.symm⟩, p.here ex (.int _)⟩
  | fz ds =>
    obtain ⟨q, xs, rfl, a1, r1⟩ := h.fz ex
    exact ⟨_, _, rfl, .inl ⟨xs, a1, r1.length.symm⟩, p.here ex (.int _)⟩
  | tup ds =>
    obtain ⟨q, xs, rfl, a1, r1, s1⟩ := h.tup ex
    exact ⟨_, _, rfl, .inr ⟨xs, a1, r1.length.symm⟩, p.here ex (.int _)⟩
  | kt ds =>
    obtain ⟨q, xs, rfl, a1, r1, s1⟩ := h.kt ex
    exact ⟨_, _, rfl, .inr ⟨xs, a1, r1.length.symm⟩, p.here ex (.int _)⟩
  | _ => exact p.elim
/-- int(..) -/
noncomputable def intD : D → Res D
  | .int i => .ok (.int i)
  | .bl k => .ok (.int (if k then 1 else 0))
  | .str a => match PySem.intText? a with
    | some n => guard (a.length ≤ 640) (.ok (.int n))
    | none => .bad
  | _ => .bad
def rIntX : List V → Hp → VK → Prop := fun xs H Q => ((∃ i, xs = [.int i] ∧ Q (.int i) H) ∨ ∃ k, xs = [.bl k] ∧ Q (.int (if k then 1 else 0)) H) ∨ ∃ a n, xs = [.str a] ∧ PySem.intText? a = some n ∧ a.length ≤ 640 ∧ Q (.int n) H
theorem cr_int : CallR X (.type "int") rIntX := call_int1.or call_int_str
theorem cs_int : CallS c (mV c) rIntX [true] (g1 intD) := by
  intro σ S H vs ds Q ex m p
  obtain ⟨v, d, rfl, rfl, h⟩ := m.one
  cases d with
  | int i => cases h.int; exact .inl (.inl ⟨_, rfl, p.here ex (.int _)⟩)
  | bl k => cases h.bl; exact .inl (.inr ⟨_, rfl, p.here ex (.int _)⟩)
  | str a =>
    cases h.str
    unfold g1 intD at p
    dsimp only at p
    split at p
    · rename_i n hn
      obtain ⟨hl, p⟩ := p.gd
      exact .inr ⟨_, n, rfl, hn, hl, p.here ex (.int _)⟩
    · exact p.elim
  | _ => exact p.elim
def absD : D → Res D
  | .int i => .ok (.int (if i < 0 then -i else i))
  | _ => .bad
/-- list(..), tuple(..) -/
def itemsL : D → Res (List D)
  | .lst ds => .ok ds
  | .fz ds => .ok ds
  | _ => .bad
def itemsT : D → Res (List D)
  | .tup ds => .ok ds
  | _ => .bad
def items : D → Res (List D)
  | .lst ds => .ok ds
  | .fz ds => .ok ds
  | .tup ds => .ok ds
  | _ => .bad
def listD (d : D) : Res D := match d with
  | .kt ds => .ok (.lst ds)
  | d => (items d).bind fun ds => .ok (.lst ds)
def tupleD (d : D) : Res D := (items d).bind fun ds => .ok (.tup ds)
theorem cs_tuple : CallS c (mV c) (fun xs H Q => ∃ p ys, xs = [.ref p] ∧ ((SqL c.K H p ys ∧ ∀ l, H l = none → Q (.ref l) (upd H l (.tup ys))) ∨ (SqT c.K H p ys ∧ Q (.ref p) H))) [true] (g1 tupleD) := by
  intro σ S H vs ds Q ex m p
  obtain ⟨v, d, rfl, rfl, h⟩ := m.one
  cases d with
  | lst ds =>
    obtain ⟨q, xs, rfl, a1, r1⟩ := h.list ex
    exact ⟨q, xs, rfl, .inl ⟨.inl (.inl a1), fun l hl => p.laid ex hl (.tup upd_same (r1.mono (Ex.new (ex.nn hl))))⟩⟩
  | fz ds =>
    obtain ⟨q, xs, rfl, a1, r1⟩ := h.fz ex
    exact ⟨q, xs, rfl, .inl ⟨a1, fun l hl => p.laid ex hl (.tup upd_same (r1.mono (Ex.new (ex.nn hl))))⟩⟩
  | tup ds =>
    obtain ⟨q, xs, rfl, a1, r1, s1⟩ := h.tup ex
    exact ⟨q, xs, rfl, .inr ⟨a1, p.here ex (.tup s1 r1)⟩⟩
  | _ => exact p.elim
/-- str(n), str(text) is not here: see part T -/
noncomputable def strD : D → Res D
  | .int i => guard (i.natAbs.log2 < 1920) (.ok (.str (toString i)))
  | _ => .bad
def tyN : D → Option String
  | .non => some "NoneType"
  | .bl _ => some "bool"
  | .int _ => some "int"
  | .str _ => some "str"
  | .lst _ => some "list"
  | .fz _ => some "list"
  | .tup _ => some "tuple"
  | .kt _ => some "tuple"
  | .dk _ _ => some "dict"
  | .dt _ _ => none
  | .obj _ _ _ => none
  | .own _ => none
  | .st _ _ => none
def isiD (T : String) (d : D) : Res D := match tyN d with
  | some n => match kitB n T with
    | some b => .ok (.bl b)
    | none => .bad
  | none => .bad
theorem RpB.ty {K : PySem.W.Frag} {cm : CM} {S H : Hp} {v : V} {d : D} {n : String} (h : RpB K cm S H v d) (ex : Ex S H) (q : tyN d = some n) : TyX K H v (.type n) := by
  cases d with
  | non => cases h.non; cases q; exact .base .non
  | bl b => cases h.bl; cases q; exact .base (.bl b)
  | int i => cases h.int; cases q; exact .base (.int i)
  | str s => cases h.str; cases q; exact .base (.str s)
  | lst ds => obtain ⟨p, xs, rfl, a, r⟩ := h.list ex; cases q; exact .base (.lst a)
  | fz ds =>
    obtain ⟨p, xs, rfl, a, r⟩ := h.fz ex; cases q
    rcases a with (a | ⟨o, a⟩) | ⟨o, its, m, a1, a2, _⟩
    · exact .base (.lst a)
    · exact .base (.frz a)
    · exact .kList a1 a2
  | tup ds =>
    obtain ⟨p, xs, rfl, a, r, s⟩ := h.tup ex; cases q
    rcases a with (a | ⟨o, a⟩) | ⟨o, its, m, a1, a2, _⟩
    · exact .base (.tup a)
    · exact .fTuple a
    · exact .kTuple a1 a2
  | dk ks vs =>
    obtain ⟨p, xs, rfl, a, r⟩ := h.dk ex; cases q
    rcases a with a | ⟨o, a⟩
    · exact .base (.dK a)
    · exact .fDict a
  | dt ks vs => cases q
  | kt ds =>
    obtain ⟨p, xs, rfl, a, r, s⟩ := h.kt ex; cases q
    rcases a with (a | ⟨o, a⟩) | ⟨o, its, m, a1, a2, _⟩
    · exact .base (.tup a)
    · exact .fTuple a
    · exact .kTuple a1 a2
  | obj n ns vs => cases q
  | own k => cases q
  | st k M => cases q
/-- the class's name is a built-in's that stands as it was -/
theorem de_isi {x : Str} {pT : Pos} (T : String) (hm : X.mg "isinstance" = none) (hg : Gl X "isinstance") (gT : Gl X x) (mT : X.mg x = none) (bT : bootBuiltins x = some (.type T)) (ha : PE X e (tR c G f)) (hK : c.K = X.K := by rfl)
    (hn : x ≠ "__name__" := by decide) (hd : (x == ("__debug__" : Str)) = false := by decide)
    (hs1 : starEach [e, .Name x pT] X.env = (false, eval e X.env) :: starEach [.Name x pT] X.env := by rfl) (hs2 : starEach [.Name x pT] X.env = (false, eval (.Name x pT) X.env) :: starEach [] X.env := by rfl) (hpl : (backTo pos (starEach [.Name x pT] X.env)).any (·.1) = false := by rfl) :
    PE X (.Call (.Name "isinstance" p) [e, .Name x pT] [] pos) (tV c G (dUn (isiD T) f)) := by
  have hT : PE X (.Name x pT) (tC (.ty T)) := pe_bltn gT mT bT rfl hn hd
  refine pe_imp (pe_callB call_isi hg hm (by decide +kernel) (pa_cons ha (pa_cons hT pa_nil hs2) hs1) (he := hs1) (hpl := hpl)) fun σ H Q ⟨S0, H0, S, r, ok, p⟩ => rd_seq ok p fun d v S1 H1 w1 o1 m1 p1 => ?_
  unfold isiD at p1
  split at p1
  · rename_i n hn
    split at p1
    · rename_i b hb
      exact ⟨v, .ty T, .type n, .type T, b, rfl, .ty T, by rw [← hK]; exact RpB.ty m1 o1.ex hn, kit_ty hb, p1.go o1.ex _ (.bl _)⟩
    · exact p1.elim
  · exact p1.elim
noncomputable def ixD : D → D → Res D
  | .lst ds, .int i => match atI ds i with
    | some d => .ok d
    | none => .bad
  | .fz ds, .int i => match atI ds i with
    | some d => .ok d
    | none => .bad
  | .tup ds, .int i => match atI ds i with
    | some d => .ok d
    | none => .bad
  | .kt ds, .int i => match atI ds i with
    | some d => .ok d
    | none => .bad
  | .str z, .int i => guard (z.length ≤ sizeLine) (match atI z.cps.toList i with
    | some n => .ok (.str ⟨#[n]⟩)
    | none => .bad)
  | _, _ => .bad
theorem RpA.atI {K : PySem.W.Frag} {cm : CM} {S : Hp} {xs : List V} {ds : List D} {i : Int} {d : D} (h : RpA K cm S xs ds) (q : atI ds i = some d) : ∃ v, L2.atI xs i = some v ∧ Rp K cm S v d := by
  unfold L2.atI at q ⊢
  rw [h.length]
  cases hj : ixN ds.length i with
  | none => rw [hj] at q; cases q
  | some j => rw [hj] at q; exact h.get q
theorem os_ix : OpS c (mV c) (rIx c.K) ixD := by
  intro σ S H x y d e Q ex hx hy p
  unfold ixD at p
  split at p
  · split at p
    · rename_i hd
      obtain ⟨q, xs, rfl, a1, r1⟩ := hx.list ex
      cases hy.int
      obtain ⟨v, h1, h2⟩ := r1.atI hd
      exact .inl ⟨q, xs, _, v, rfl, rfl, .inl (.inl a1), h1, p.here ex h2⟩
    · exact p.elim
  · split at p
    · rename_i hd
      obtain ⟨q, xs, rfl, a1, r1⟩ := hx.fz ex
      cases hy.int
      obtain ⟨v, h1, h2⟩ := r1.atI hd
      exact .inl ⟨q, xs, _, v, rfl, rfl, a1, h1, p.here ex h2⟩
    · exact p.elim
  · split at p
    · rename_i hd
      obtain ⟨q, xs, rfl, a1, r1, s1⟩ := hx.tup ex
      cases hy.int
      obtain ⟨v, h1, h2⟩ := r1.atI hd
      exact .inr (.inl ⟨q, xs, _, v, rfl, rfl, a1, h1, p.here ex h2⟩)
    · exact p.elim
  · split at p
    · rename_i hd
      obtain ⟨q, xs, rfl, a1, r1, s1⟩ := hx.kt ex
      cases hy.int
      obtain ⟨v, h1, h2⟩ := r1.atI hd
      exact .inr (.inl ⟨q, xs, _, v, rfl, rfl, a1, h1, p.here ex h2⟩)
    · exact p.elim
  · obtain ⟨hl, p⟩ := p.gd
    cases hx.str; cases hy.int
    split at p
    · rename_i hd
      exact .inr (.inr ⟨_, _, _, rfl, rfl, hl, hd, p.here ex (.str _)⟩)
    · exact p.elim
  · exact p.elim
theorem de_ix (ha : PE X a (tR c G f1)) (hb : PE X b (tR c G f2)) (hs : PlainIx b) (hK : c.K = X.K := by rfl) : PE X (.Subscript a b pos) (tV c G (dOp ixD f1 f2)) :=
  pe_imp (pe_ix ix_seq ha hb hs) (by rw [← hK]; exact op_rd os_ix)
def cutL {α : Type} (xs : List α) (lo hi : Option Int) : List α := (xs.drop (HT.sIx xs.length 0 lo)).take (HT.sIx xs.length xs.length hi - HT.sIx xs.length 0 lo)
def asI : D → Res Int
  | .int i => .ok i
  | _ => .bad
def dNoP : Rho → Res (Option Int) := fun _ => .ok none
def dPart (f : Rho → Res D) : Rho → Res (Option Int) := fun r => (f r).bind fun d => (asI d).bind fun i => .ok (some i)
theorem po_imp {oe : Option Expr} {t t' : TO} (h : PO X oe t) (k : ∀ σ H Q, t' σ H Q → t σ H Q) : PO X oe t' := ⟨fun pins s σ H Q I q => h.run pins s σ H Q I (k σ H Q q)⟩
abbrev tP (c : Cf) (G : List Ow) (f : Rho → Res (Option Int)) : TO := rd c G f (mE (Option Int))
theorem dp_none : PO X none (tP c G dNoP) := po_imp po_none fun σ H Q ⟨S0, H0, S, r, ok, p⟩ => p.go ok.ex _ rfl
theorem of_asI {σ : St} {S H : Hp} {d : D} {k : Int → Hp → Hp → Prop} (p : PostG c σ S H (asI d) k) : ∃ i, d = .int i ∧ PostG c σ S H (.ok i) k := by
  cases d with
  | int i => exact ⟨i, rfl, p⟩
  | _ => exact p.elim
theorem dp_some (h : PE X e (tV c G f)) : PO X (some e) (tP c G (dPart f)) := po_imp (po_some h) fun σ H Q ⟨S0, H0, S, r, ok, p⟩ => rd_seq ok p fun d v S1 H1 w1 o1 m1 p1 => by
  obtain ⟨i, rfl, q1⟩ := of_asI p1.unbind
  cases m1
  exact ⟨i, rfl, (q1.go o1.ex).go o1.ex _ rfl⟩
variable {fl fh : Rho → Res (Option Int)} {lo hi : Option Expr} {p2 : Pos}
noncomputable def slD (d : D) (lo hi : Option Int) : Res D := match d with
  | .lst ds => .ok (.lst (cutL ds lo hi))
  | .fz ds => .ok (.lst (cutL ds lo hi))
  | .tup ds => .ok (.tup (cutL ds lo hi))
  | .str z => guard (z.length ≤ sizeLine) (.ok (.str (cutS z lo hi)))
  | _ => .bad
def dSl (g : D → Option Int → Option Int → Res D) (f : Rho → Res D) (fl fh : Rho → Res (Option Int)) : Rho → Res D := fun r => (f r).bind fun d => (fl r).bind fun l => (fh r).bind fun h => g d l h
def rSlX (K : PySem.W.Frag) : V → Option Int → Option Int → Hp → VK → Prop := fun x lo hi H Q => rSlL K x lo hi H Q ∨ rSlA K x lo hi H Q ∨ rSlS x lo hi H Q
theorem sl_x : SlR X (rSlX X.K) := sl_list.or (sl_tupA.or sl_str)
theorem RpA.cut {K : PySem.W.Frag} {cm : CM} {S : Hp} {xs : List V} {ds : List D} {lo hi : Option Int} (h : RpA K cm S xs ds) : RpA K cm S (cutV xs lo hi) (cutL ds lo hi) := by
  unfold cutV cutL
  rw [h.length]
  exact (h.drop _).take _
theorem cutV_whole {xs : List V} {lo hi : Option Int} (h : HT.sIx xs.length 0 lo = 0 ∧ HT.sIx xs.length xs.length hi = xs.length) : cutV xs lo hi = xs := by
  unfold cutV
  rw [h.1, h.2]
  simp
theorem de_sl (ha : PE X a (tR c G f)) (hl : PO X lo (tP c G fl)) (hh : PO X hi (tP c G fh)) (hK : c.K = X.K := by rfl) : PE X (.Subscript a (.Slice lo hi none p2) pos) (tV c G (dSl slD f fl fh)) :=
  pe_imp (pe_slice sl_x ha hl hh) fun σ H Q ⟨S0, H0, S, r, ok, p⟩ => rd_seq ok p fun d v S1 H1 w1 o1 m1 p1 => rd_seq o1 p1 fun l l' S2 H2 w2 o2 m2 p2 => rd_seq o2 p2 fun h h' S3 H3 w3 o3 m3 p3 => by
    have m1 := RpB.mono m1 (w2.s.trans w3.s) (w2.h.trans w3.h)
    rw [show l' = l from m2, show h' = h from m3, ← hK]
    cases d with
    | lst ds =>
      obtain ⟨q, xs, rfl, a1, r1⟩ := m1.list o3.ex
      exact .inl ⟨q, xs, rfl, .inl (.inl a1), fun q hq => PostG.laid p3 o3.ex hq (.lst upd_same (r1.cut.mono (Ex.new (o3.ex.nn hq))))⟩
    | fz ds =>
      obtain ⟨q, xs, rfl, a1, r1⟩ := m1.fz o3.ex
      exact .inl ⟨q, xs, rfl, a1, fun q hq => PostG.laid p3 o3.ex hq (.lst upd_same (r1.cut.mono (Ex.new (o3.ex.nn hq))))⟩
    | tup ds =>
      obtain ⟨q, xs, rfl, a1, r1, s1⟩ := m1.tup o3.ex
      refine .inr (.inl ⟨q, xs, rfl, a1, fun hw => p3.go o3.ex _ (.tup s1 ?_), fun _ q hq => PostG.laid p3 o3.ex hq (.tup upd_same (r1.cut.mono (Ex.new (o3.ex.nn hq))))⟩)
      have := r1.cut (lo := l) (hi := h)
      rw [cutV_whole hw] at this
      exact this
    | str z =>
      obtain ⟨hl, p3⟩ := p3.gd
      cases m1.str
      exact .inr (.inr ⟨z, rfl, hl, p3.go o3.ex _ (.str _)⟩)
    | _ => exact p3.elim
/-- a slice of a list, the new list one's own -/
def slL (d : D) (lo hi : Option Int) : Res D := match d with
  | .lst ds => .ok (.lst (cutL ds lo hi))
  | .fz ds => .ok (.lst (cutL ds lo hi))
  | _ => .bad
end
end Dx
end S_DxD
section S_DxE
set_option Elab.async false
set_option linter.all false
set_option maxRecDepth 100000
set_option maxHeartbeats 2000000
namespace Dx
open PySem L2
/-- what is wanted behind a statement -/
def PostS (c : Cf) (S0 H0 : Hp) (L G' : List Ow) (o : SR) (E : Ends) : Prop :=
  match o with
  | .nx r => ∀ σ' S' H', EnvOk c S0 H0 G' S' H' σ' r → E.nx σ' H'
  | .rt d => if c.rm then ∀ p ho S' H', Fwd S0 H0 S' H' → H0 p = none → S' p = none → H' p = some ho → RpO c.K c.cm S' ho d → E.rt (.ref p) H'
      else ∀ v S' H', Fwd S0 H0 S' H' → Rp c.K c.cm S' v d → E.rt v H'
  | .bk r => ∀ σ' S' H', EnvOk c S0 H0 L S' H' σ' r → E.bk σ' H'
  | .ct r => ∀ σ' S' H', EnvOk c S0 H0 L S' H' σ' r → E.ct σ' H'
  | .er r n ns vs => ∀ C dd σ' S' H' fs, c.cm n = some C → Fwd S0 H0 S' H' → (∀ g, c.ge = some g → EnvOk c S0 H0 g S' H' σ' r) → S' dd = some (.xd fs) → ns = fs.map (·.1) → RpA c.K c.cm S' (fs.map (·.2)) vs → c.W (.ref C) (some dd) σ' H'
  | .bad => False
def sD (c : Cf) (L G G' : List Ow) (F : Rho → SR) : TS := fun E σ H => ∃ S0 H0 S r, EnvOk c S0 H0 G S H σ r ∧ PostS c S0 H0 L G' (F r) E
def liftS {α : Type} (r : Rho) (x : Res α) (k : α → SR) : SR := match x with
  | .ok a => k a
  | .err n ns vs => .er r n ns vs
  | .bad => .bad
/-- where a try's clauses ask for the slots, the kinds are the ones told -/
def Gok (c : Cf) (G : List Ow) : Prop := ∀ g, c.ge = some g → g = G
section
variable {X : Cx} {c : Cf} {L G G' G'' : List Ow} {σ : St} {S0 H0 S H : Hp} {r : Rho} {α β : Type} {E : Ends}
theorem st_seq {f : Rho → Res α} {R : Md β α} (hg : Gok c G) (e : EnvOk c S0 H0 G S H σ r) {k : α → SR} (p : PostS c S0 H0 L G' (liftS r (f r) k) E) {Q : β → Hp → Prop}
    (h : ∀ a b S' H', Fwd S H S' H' → EnvOk c S0 H0 G S' H' σ r → R H S' H' b a → PostS c S0 H0 L G' (k a) E → Q b H') : rd c G f R σ H Q := by
  refine ⟨S0, H0, S, r, e, ?_⟩
  cases hf : f r with
  | ok a => rw [hf] at p; exact fun S' H' fw b hb => h a b S' H' fw (e.go fw) hb p
  | err n ns vs =>
    rw [hf] at p
    exact fun C dd S' H' fs h1 fw h2 h3 h4 => p C dd σ S' H' fs h1 (e.fwd.trans fw) (fun g q => by rw [hg g q]; exact e.go fw) h2 h3 h4
  | bad => rw [hf] at p; exact p.elim
/-- the stable part as the new base -/
theorem EnvOk.rebase (e : EnvOk c S0 H0 G S H σ r) : EnvOk c S H0 G S H σ r := ⟨⟨Ex.refl, e.fwd.h, e.fwd.sub, fun a o h n => by rw [n] at h; cases h⟩, e.len, e.slot, e.sep, e.sto⟩
theorem Fwd.unbase {S' H' : Hp} (f : Fwd S0 H0 S H) (g : Fwd S H0 S' H') : Fwd S0 H0 S' H' := ⟨f.s.trans g.s, g.h, g.sub, fun a o h n => by
  cases q : S a with
  | some u => exact f.new a u q n
  | none => exact g.new a o h q⟩
theorem EnvOk.unbase {S' H' : Hp} {σ' : St} {r' : Rho} (f : Fwd S0 H0 S H) (e : EnvOk c S H0 G' S' H' σ' r') : EnvOk c S0 H0 G' S' H' σ' r' := ⟨f.unbase e.fwd, e.len, e.slot, e.sep, e.sto⟩
theorem PostS.rebase {o : SR} (f : Fwd S0 H0 S H) (p : PostS c S0 H0 L G' o E) : PostS c S H0 L G' o E := by
  cases o with
  | nx r => exact fun σ' S' H' e => p σ' S' H' (e.unbase f)
  | rt d =>
    unfold PostS at p ⊢
    dsimp only at p ⊢
    split
    · rename_i h
      rw [if_pos h] at p
      exact fun q ho S' H' w => p q ho S' H' (f.unbase w)
    · rename_i h
      rw [if_neg h] at p
      exact fun v S' H' w => p v S' H' (f.unbase w)
  | bk r => exact fun σ' S' H' e => p σ' S' H' (e.unbase f)
  | ct r => exact fun σ' S' H' e => p σ' S' H' (e.unbase f)
  | er r n ns vs => exact fun C dd σ' S' H' fs h1 w h2 => p C dd σ' S' H' fs h1 (f.unbase w) fun g q => (h2 g q).unbase f
  | bad => exact p
def seqF (F K : Rho → SR) : Rho → SR := fun r => match F r with
  | .nx r' => K r'
  | o => o
theorem ds_nil : PSs X [] (sD c L G G .nx) := pss_imp pss_nil fun E σ H ⟨S0, H0, S, r, ok, p⟩ => p σ S H ok
theorem ds_cons {st : Stmt} {rest : List Stmt} {F K : Rho → SR} (h1 : PS X st (sD c L G G' F)) (h2 : PSs X rest (sD c L G' G'' K)) : PSs X (st :: rest) (sD c L G G'' (seqF F K)) := pss_imp (pss_cons h1 h2) fun E σ H ⟨S0, H0, S, r, ok, p⟩ => by
  refine ⟨S0, H0, S, r, ok, ?_⟩
  unfold seqF at p
  cases hF : F r with
  | nx r' => rw [hF] at p; exact fun σ' S' H' e => ⟨S0, H0, S', r', e, p⟩
  | rt d => rw [hF] at p; exact p
  | bk r' => rw [hF] at p; exact p
  | ct r' => rw [hF] at p; exact p
  | er r' n ns vs => rw [hF] at p; exact p
  | bad => rw [hF] at p; exact p.elim
theorem ds_one {st : Stmt} {F : Rho → SR} (h1 : PS X st (sD c L G G' F)) : PSs X [st] (sD c L G G' F) := pss_one h1
/-- an own object becomes a value, ahead of a block; behind one -/
theorem EnvOk.pubL (e : EnvOk c S0 H0 G S H σ r) (i : Nat) (hk : kd G i = .o ∨ kd G i = .v) : Lo (fun H => ∃ S', EnvOk c S0 H0 (G.set i .v) S' H σ r) H := by
  by_cases h : kd G i = .o ∧ ∃ d, r[i]? = some (some d) ∧ isDct d = true
  · obtain ⟨k, d, h1, h2⟩ := h
    exact .inr (e.pubD i k h1 h2)
  · by_cases k : kd G i = .o
    · exact .inl (e.pub i hk fun d hd => by
        cases q : isDct d with
        | false => rfl
        | true => exact (h ⟨k, d, hd, q⟩).elim)
    · have k' : kd G i = .v := hk.resolve_left k
      have all : ∀ j, kd (G.set i .v) j = kd G j := fun j => by
        by_cases ne : i = j
        · subst ne; rw [kd_set_self, k']
        · exact kd_set_ne ne
      exact .inl ⟨S, e.fwd, e.len, fun j b hb => by rw [all]; exact e.slot j b hb, fun j l b b' q hj hk kj kk sj sk => e.sep j l b b' q hj hk ((all j) ▸ kj) ((all l) ▸ kk) sj sk, e.sto_un i hk⟩
theorem Lo.imp {Q R : Hp → Prop} {H : Hp} (h : Lo Q H) (k : ∀ H, Q H → R H) : Lo R H := by
  rcases h with h | ⟨p, u, h1, h2, h⟩
  · exact .inl (k _ h)
  · exact .inr ⟨p, u, h1, h2, fun w => k _ (h w)⟩
theorem ds_pub {sts : List Stmt} {F : Rho → SR} (i : Nat) (h : PSs X sts (sD c L (G.set i .v) G' F)) (hk : kd G i = .o ∨ kd G i = .v) : PSs X sts (sD c L G G' F) := pss_lock h fun E σ H ⟨S0, H0, S, r, ok, p⟩ =>
  (ok.pubL i hk).imp fun H' ⟨S', ok'⟩ => ⟨S0, H0, S', r, ok', p⟩
variable {e : Expr} {pos : Pos} {f : Rho → Res D}
def setF (i : Nat) (f : Rho → Res D) : Rho → SR := fun r => liftS r (f r) fun d => .nx (r.set i (some d))
/-- x = e -/
theorem ds_set (i : Nat) {x : Str} {pos' : Pos} (hg : Gok c G) (hN : X.N.Nodup) (hi : X.N[i]? = some x) (hx : Loc X.env.scope x) (he : PE X e (tV c G f)) (hs : swapsWith e (some (.Name x pos')) pos.line X.env = pure false := by rfl)
    (hf : X.fn x = true ∨ X.env.scope.names.lookup x = some .local := by first | exact .inl rfl | exact .inr rfl | assumption) : PS X (.Assign [.Name x pos'] e pos) (sD c L G (G.set i .v) (setF i f)) :=
  ps_imp (ps_set hN hi hx he hs hf) fun E σ H ⟨S0, H0, S, r, ok, p⟩ => st_seq hg ok p fun d v S1 H1 w1 o1 m1 p1 => p1 _ S1 H1 (o1.setV i m1)
/-- x = e, a new object of one's own -/
theorem ds_setO (i : Nat) {x : Str} {pos' : Pos} (hg : Gok c G) (hG : i < G.length) (hN : X.N.Nodup) (hi : X.N[i]? = some x) (hx : Loc X.env.scope x) (he : PE X e (tO c G f)) (hs : swapsWith e (some (.Name x pos')) pos.line X.env = pure false := by rfl)
    (hf : X.fn x = true ∨ X.env.scope.names.lookup x = some .local := by first | exact .inl rfl | exact .inr rfl | assumption) : PS X (.Assign [.Name x pos'] e pos) (sD c L G (G.set i .o) (setF i f)) :=
  ps_imp (ps_set hN hi hx he hs hf) fun E σ H ⟨S0, H0, S, r, ok, p⟩ => st_seq hg ok p fun d v S1 H1 w1 o1 m1 p1 => by
    obtain ⟨q, ho, rfl, n, ns, hp, h⟩ := m1
    exact p1 _ S1 H1 (ok.setO w1 i hG n ns hp h)
def retF (f : Rho → Res D) : Rho → SR := fun r => liftS r (f r) .rt
theorem ds_ret (hg : Gok c G) (hr : c.rm = false) (he : PE X e (tV c G f)) : PS X (.Return (some e) pos) (sD c L G G' (retF f)) := ps_imp (ps_ret he) fun E σ H ⟨S0, H0, S, r, ok, p⟩ => st_seq hg ok p fun d v S1 H1 w1 o1 m1 p1 => by
  unfold PostS at p1
  rw [hr] at p1
  exact p1 v S1 H1 o1.fwd m1
def dropF {α : Type} (f : Rho → Res α) : Rho → SR := fun r => liftS r (f r) fun _ => .nx r
theorem ds_expr {R : Md V D} (hg : Gok c G) (he : PE X e (rd c G f R)) (hs : swapsWith e none pos.line X.env = pure false := by rfl) : PS X (.Expr e pos) (sD c L G G (dropF f)) := ps_imp (ps_expr he hs) fun E σ H ⟨S0, H0, S, r, ok, p⟩ =>
  st_seq hg ok p fun d v S1 H1 w1 o1 m1 p1 => p1 σ S1 H1 o1
theorem ds_cont : PS X (.Continue pos) (sD c G G G' .ct) := ps_imp ps_continue fun E σ H ⟨S0, H0, S, r, ok, p⟩ => p σ S H ok
def ifF (t : Rho → Res Bool) (F K : Rho → SR) : Rho → SR := fun r => liftS r (t r) fun b => if b = true then F r else K r
theorem ds_if {cnd : Expr} {sa sb : List Stmt} {t : Rho → Res Bool} {F K : Rho → SR} (hg : Gok c G) (hc : PT X cnd (tT c G t)) (ha : PSs X sa (sD c L G G' F)) (hb : PSs X sb (sD c L G G' K)) : PS X (.If cnd sa sb pos) (sD c L G G' (ifF t F K)) :=
  ps_imp (ps_if hc ha hb) fun E σ H ⟨S0, H0, S, r, ok, p⟩ => st_seq hg ok p fun x v S1 H1 w1 o1 m1 p1 => by
    rw [show v = x from m1]
    cases x with
    | true => exact ⟨S0, H0, S1, r, o1, p1⟩
    | false => exact ⟨S0, H0, S1, r, o1, p1⟩
variable {a b : Expr} {f1 f2 : Rho → Res D} {apos cpos p' : Pos}
/-- the own list in slot i -/
def ownL (i : Nat) (r : Rho) : Res (List D) := match r[i]? with
  | some (some (.lst ds)) => .ok ds
  | _ => .bad
theorem of_ownL {i : Nat} {k : List D → SR} (e : EnvOk c S0 H0 G S H σ r) (kd' : kd G i = .o) (p : PostS c S0 H0 L G' (liftS r (ownL i r) k) E) :
    ∃ q xs ds, r[i]? = some (some (.lst ds)) ∧ σ[i]? = some (some (.ref q)) ∧ H q = some (.lst xs) ∧ RpA c.K c.cm S xs ds ∧ PostS c S0 H0 L G' (k ds) E := by
  unfold ownL at p
  split at p
  · rename_i ds hd
    obtain ⟨q, ho, s1, s2, s3, s4, s5⟩ := e.own kd' hd
    cases s5 with
    | lst r1 => exact ⟨q, _, ds, hd, s1, s2, r1, p⟩
  · exact p.elim
noncomputable def guardS (p : Prop) (x : SR) : SR := @ite _ p (Classical.propDecidable p) x .bad
theorem guardS_pos {p : Prop} {x : SR} (h : p) : guardS p x = x := by unfold guardS; exact if_pos h
noncomputable def appF (i : Nat) (f : Rho → Res D) : Rho → SR := fun r => liftS r (ownL i r) fun ds => liftS r (f r) fun d => guardS (ds.length < sizeLine) (.nx (r.set i (some (.lst (ds ++ [d])))))
theorem PostS.ite {p : Prop} [Decidable p] {x : SR} (h : PostS c S0 H0 L G' (if p then x else .bad) E) : p ∧ PostS c S0 H0 L G' x E := by
  by_cases hp : p
  · rw [if_pos hp] at h; exact ⟨hp, h⟩
  · rw [if_neg hp] at h; exact h.elim
theorem PostS.gd {p : Prop} {x : SR} (h : PostS c S0 H0 L G' (guardS p x) E) : p ∧ PostS c S0 H0 L G' x E := by
  by_cases hp : p
  · rw [guardS_pos hp] at h; exact ⟨hp, h⟩
  · unfold guardS at h; rw [if_neg hp] at h; exact h.elim
theorem pe_app {o : Expr} {to te : TE} (ho : PE X o to) (he : PE X e te) (hbase : attributeBase o "append" X.env (eval o X.env) = eval o X.env := by rfl)
    (hfew : ((backTo cpos (starEach [e] X.env)).all (fun x => !x.1) && (backToKw cpos (keywordEach [] X.env)).all (fun x => x.1.isSome) && decide ([e].length + ([] : List Keyword).length + (if ([] : List Keyword).isEmpty then 0 else 1) < 30)) = true := by rfl)
    (hline : (apos.endLine == cpos.line) = true := by rfl) (hs : starEach [e] X.env = (false, eval e X.env) :: starEach [] X.env := by rfl) :
    PE X (.Call (.Attribute o "append" apos) [e] [] cpos) (tBM X.K "list" rAppend to (tCons te tNil)) :=
  pe_bm PySem.F.plainAttrs_list PySem.F.slot_list_append PySem.F.type_list_append mt_append ho (pa_cons he pa_nil hs) hbase hfew hline hs rfl
theorem ds_app (i : Nat) {x : Str} {pn : Pos} (hg : Gok c G) (k : kd G i = .o) (ho : PE X (.Name x pn) (tVar i)) (he : PE X e (tV c G f)) (hw : swapsWith (.Call (.Attribute (.Name x pn) "append" apos) [e] [] cpos) none pos.line X.env = pure false := by rfl)
    (hbase : attributeBase (.Name x pn) "append" X.env (eval (.Name x pn) X.env) = eval (.Name x pn) X.env := by rfl)
    (hfew : ((backTo cpos (starEach [e] X.env)).all (fun x => !x.1) && (backToKw cpos (keywordEach [] X.env)).all (fun x => x.1.isSome) && decide ([e].length + ([] : List Keyword).length + (if ([] : List Keyword).isEmpty then 0 else 1) < 30)) = true := by rfl)
    (hline : (apos.endLine == cpos.line) = true := by rfl) (hs : starEach [e] X.env = (false, eval e X.env) :: starEach [] X.env := by rfl) :
    PS X (.Expr (.Call (.Attribute (.Name x pn) "append" apos) [e] [] cpos) pos) (sD c L G G (appF i f)) :=
  ps_imp (ps_expr (pe_app ho he hbase hfew hline hs) hw) fun E σ H ⟨S0, H0, S, r, ok, p⟩ => by
    obtain ⟨q, xs, ds, hd, z1, z2, z3, p1⟩ := of_ownL ok k p
    refine ⟨.ref q, z1, .inl ⟨rfl, xs, .inl (.inl z2)⟩, st_seq hg ok p1 fun d v S1 H1 w1 o1 m1 p2 => ?_⟩
    obtain ⟨hl, p2⟩ := p2.gd
    exact ⟨q, xs, v, rfl, rfl, w1.h _ _ z2, by rw [z3.length]; exact hl, p2 σ S1 _ (o1.mut k hd z1 (.lst ((z3.mono w1.s).app (.one m1))))⟩
/-- what is wanted behind a target -/
def PostR (c : Cf) (S0 H0 S H : Hp) (G' : List Ow) (σ : St) (ks : List Nat) (x : Res Rho) (Q : St → Hp → Prop) : Prop := match x with
  | .ok r' => ∀ σ', wipe σ' ks = wipe σ ks → EnvOk c S0 H0 G' S H σ' r' → Q σ' H
  | _ => False
theorem wipe_get (σ : St) : ∀ (vs : List Nat) (i : Nat), (wipe σ vs)[i]? = if i ∈ vs then σ[i]?.map (fun _ => none) else σ[i]?
  | [], i => by simp [wipe]
  | v :: vs, i => by
    show ((wipe σ vs).set v none)[i]? = _
    by_cases h : v = i
    · subst h
      rw [List.getElem?_set, if_pos rfl, wipe_length, if_pos (List.mem_cons_self)]
      split
      · rename_i hl; simp [List.getElem?_eq_getElem hl]
      · rename_i hl; rw [List.getElem?_eq_none (by omega)]; rfl
    · rw [List.getElem?_set_ne h, wipe_get σ vs i]
      have : (i ∈ v :: vs) ↔ i ∈ vs := by simp [List.mem_cons, Ne.symm h]
      simp only [this]
theorem wipe_set {σ : St} {i : Nat} {x : Option V} : wipe (σ.set i x) [i] = wipe σ [i] := by
  show (σ.set i x).set i none = σ.set i none
  exact List.set_set _
theorem wipe_len {σ σ' : St} {ks : List Nat} (h : wipe σ' ks = wipe σ ks) : σ'.length = σ.length := by
  have := congrArg List.length h
  rw [wipe_length, wipe_length] at this
  exact this
theorem wipe_get_eq {σ σ' : St} {ks : List Nat} (h : wipe σ' ks = wipe σ ks) {i : Nat} (hi : i ∉ ks) : σ'[i]? = σ[i]? := by
  have := congrArg (fun l : St => l[i]?) h
  simp only [wipe_get, if_neg hi] at this
  exact this
theorem wipe_app {σ σ1 σ2 : St} {k1 k2 : List Nat} (h1 : wipe σ1 k1 = wipe σ k1) (h2 : wipe σ2 k2 = wipe σ1 k2) : wipe σ2 (k1 ++ k2) = wipe σ (k1 ++ k2) := by
  have l1 := wipe_len h1
  have l2 := wipe_len h2
  apply List.ext_getElem?
  intro i
  rw [wipe_get, wipe_get]
  by_cases hi : i ∈ k1 ++ k2
  · rw [if_pos hi, if_pos hi]
    by_cases hl : i < σ.length
    · rw [List.getElem?_eq_getElem hl, List.getElem?_eq_getElem (show i < σ2.length by omega)]; rfl
    · rw [List.getElem?_eq_none (by omega), List.getElem?_eq_none (by omega)]
  · rw [if_neg hi, if_neg hi]
    have a1 : i ∉ k1 := fun z => hi (List.mem_append_left _ z)
    have a2 : i ∉ k2 := fun z => hi (List.mem_append_right _ z)
    rw [wipe_get_eq h2 a2, wipe_get_eq h1 a1]
/-- a target by data -/
def gD (c : Cf) (G G' : List Ow) (ks : List Nat) (t : D → Rho → Res Rho) : TG := fun v σ H Q => ∃ S0 H0 S r d, EnvOk c S0 H0 G S H σ r ∧ Rp c.K c.cm S v d ∧ PostR c S0 H0 S H G' σ ks (t d r) Q
theorem pg_imp {tg : Expr} {t t' : TG} (h : PG X tg t) (k : ∀ v σ H Q, t' v σ H Q → t v σ H Q) : PG X tg t' := ⟨fun pins s σ H v u Q I r q => h.run pins s σ H v u Q I r (k v σ H Q q)⟩
theorem pgs_imp {tg : List Expr} {t t' : TGs} (h : PGs X tg t) (k : ∀ v σ H Q, t' v σ H Q → t v σ H Q) : PGs X tg t' := ⟨fun pins s σ H v u Q I r q => h.run pins s σ H v u Q I r (k v σ H Q q)⟩
def tgN (i : Nat) : D → Rho → Res Rho := fun d r => .ok (r.set i (some d))
theorem dg_name (i : Nat) {x : Str} (hN : X.N.Nodup) (hi : X.N[i]? = some x) (hx : Loc X.env.scope x) (hf : X.fn x = true ∨ X.env.scope.names.lookup x = some .local := by first | exact .inl rfl | exact .inr rfl | assumption) :
    PG X (.Name x pos) (gD c G (G.set i .v) [i] (tgN i)) := pg_imp (pg_name hN hi hx hf) fun v σ H Q ⟨S0, H0, S, r, d, ok, hv, p⟩ => p _ wipe_set (ok.setV i hv)
def gDs (c : Cf) (G G' : List Ow) (ks : List Nat) (t : List D → Rho → Res Rho) : TGs := fun vs σ H Q => ∃ S0 H0 S r ds, EnvOk c S0 H0 G S H σ r ∧ RpA c.K c.cm S vs ds ∧ PostR c S0 H0 S H G' σ ks (t ds r) Q
def tgNil : List D → Rho → Res Rho
  | [], r => .ok r
  | _ :: _, _ => .bad
def tgCons (t : D → Rho → Res Rho) (u : List D → Rho → Res Rho) : List D → Rho → Res Rho
  | [], _ => .bad
  | d :: ds, r => (t d r).bind (u ds)
theorem dg_nil : PGs X [] (gDs c G G [] tgNil) := pgs_imp pgs_nil fun vs σ H Q ⟨S0, H0, S, r, ds, ok, hv, p⟩ => by
  cases hv with
  | nil => exact ⟨rfl, p σ rfl ok⟩
  | cons _ _ => exact p.elim
theorem dg_cons {es : List Expr} {t : D → Rho → Res Rho} {u : List D → Rho → Res Rho} {k1 k2 : List Nat} (h1 : PG X e (gD c G G' k1 t)) (h2 : PGs X es (gDs c G' G'' k2 u)) (hs : (assignEach (e :: es) X.env).map (·.2) = assign e X.env :: (assignEach es X.env).map (·.2) := by rfl) :
    PGs X (e :: es) (gDs c G G'' (k1 ++ k2) (tgCons t u)) := pgs_imp (pgs_cons h1 h2 hs) fun vs σ H Q ⟨S0, H0, S, r, ds, ok, hv, p⟩ => by
  cases hv with
  | nil => exact p.elim
  | @cons v vs d ds hv hr =>
    refine ⟨v, vs, rfl, S0, H0, S, r, d, ok, hv, ?_⟩
    have p : PostR c S0 H0 S H G'' σ (k1 ++ k2) ((t d r).bind (u ds)) Q := p
    cases ht : t d r with
    | ok r1 =>
      rw [ht] at p
      intro σ1 z1 ok1
      refine ⟨S0, H0, S, r1, ds, ok1, hr, ?_⟩
      have p : PostR c S0 H0 S H G'' σ (k1 ++ k2) (u ds r1) Q := p
      cases hu : u ds r1 with
      | ok r2 => rw [hu] at p; exact fun σ2 z2 ok2 => p σ2 (wipe_app z1 z2) ok2
      | err _ _ _ => rw [hu] at p; exact p.elim
      | bad => rw [hu] at p; exact p.elim
    | err _ _ _ => rw [ht] at p; exact p.elim
    | bad => rw [ht] at p; exact p.elim
def tgT (n : Nat) (u : List D → Rho → Res Rho) : D → Rho → Res Rho := fun d r => match d with
  | .tup ds => if ds.length = n then u ds r else .bad
  | .kt ds => if ds.length = n then u ds r else .bad
  | _ => .bad
theorem dg_tup {es : List Expr} {k n : Nat} {ks : List Nat} {u : List D → Rho → Res Rho} (hc : X.calm = true) (h : PGs X es (gDs c G G' ks u)) (hn : (assignEach es X.env).length = n := by rfl) (hst : (assignEach es X.env).findIdx? (·.1) = none := by rfl) (hK : c.K = X.K := by rfl) :
    PG X (.Tuple es k pos) (gD c G G' ks (tgT n u)) := pg_imp (pg_tup hc h hn hst) fun v σ H Q ⟨S0, H0, S, r, d, ok, hv, p⟩ => by
  unfold tgT at p
  cases hv with
  | @kt a xs ds q rr =>
    dsimp only at p
    by_cases hl : ds.length = n
    · rw [if_pos hl] at p
      exact ⟨a, xs, rfl, by rw [← hK]; exact ok.ex.t q, by rw [rr.length]; exact hl, S0, H0, S, r, ds, ok, rr, p⟩
    · rw [if_neg hl] at p; exact p.elim
  | @tup a xs ds q rr =>
    dsimp only at p
    by_cases hl : ds.length = n
    · rw [if_pos hl] at p
      exact ⟨a, xs, rfl, by rw [← hK]; exact .inl (.inl (ok.ex _ _ q)), by rw [rr.length]; exact hl, S0, H0, S, r, ds, ok, rr, p⟩
    · rw [if_neg hl] at p; exact p.elim
  | _ => exact p.elim
def asgF (t : D → Rho → Res Rho) (f : Rho → Res D) : Rho → SR := fun r => liftS r (f r) fun d => match t d r with
  | .ok r' => .nx r'
  | _ => .bad
/-- target = e -/
theorem ds_asg {tg : Expr} {ks : List Nat} {t : D → Rho → Res Rho} (hg : Gok c G) (he : PE X e (tV c G f)) (ht : PG X tg (gD c G G' ks t)) (hs : swapsWithSole [tg] e pos.line X.env = pure false := by rfl) (hw : swappedStores [tg] e X.env = pure none := by rfl)
    (h1 : (assignEach [tg] X.env).map (·.2) = [assign tg X.env] := by rfl) : PS X (.Assign [tg] e pos) (sD c L G G' (asgF t f)) := ps_imp (ps_asg he ht hs hw h1) fun E σ H ⟨S0, H0, S, r, ok, p⟩ => st_seq hg ok p fun d v S1 H1 w1 o1 m1 p1 => by
  refine ⟨S0, H0, S1, r, d, o1, m1, ?_⟩
  cases ht : t d r with
  | ok r' => rw [ht] at p1; exact fun σ' _ ok' => p1 σ' S1 H1 ok'
  | err _ _ _ => rw [ht] at p1; exact p1.elim
  | bad => rw [ht] at p1; exact p1.elim
/-- x, y = a, b -/
def parF (i j : Nat) (f1 f2 : Rho → Res D) : Rho → SR := fun r => liftS r (dCons f1 (dCons f2 dNil) r) fun ds => match ds with
  | [d, e] => .nx ((r.set i (some d)).set j (some e))
  | _ => .bad
def YOk (c : Cf) (S' : Hp) (ds : List D) (Y : Nat → Hp → V → Hp → Prop) : Prop := ∀ i S1 H1 x H2, i < ds.length → Ex S' S1 → Ex S1 H1 → Y i H1 x H2 → ∃ S2 d, Fwd S1 H1 S2 H2 ∧ ds[i]? = some d ∧ Rp c.K c.cm S2 x d
/-- the iterator J gives the data ds -/
def Gives (c : Cf) (H0 S' : Hp) (J : It) (ds : List D) : Prop := ∃ Gd Y, Walk J ds.length Gd Y ∧ (∀ S'' H'', Ex S' S'' → Ex S'' H'' → Ex H0 H'' → Gd H'') ∧ YOk c S' ds Y
def iD (c : Cf) (G : List Ow) (f : Rho → Res (List D)) : TI := fun σ H R => ∃ S0 H0 S r, EnvOk c S0 H0 G S H σ r ∧ PostG c σ S H (f r) fun ds S' H' => ∀ J, Gives c H0 S' J ds → R J H'
theorem pi_imp {tg it : Expr} {t t' : TI} (h : PI X tg it t) (k : ∀ σ H R, t' σ H R → t σ H R) : PI X tg it t' := ⟨fun pins s σ H R I q => h.run pins s σ H R I (k σ H R q)⟩
def dIt (g : D → Res (List D)) (f : Rho → Res D) : Rho → Res (List D) := fun r => (f r).bind g
theorem gives_list {c : Cf} {H0 S : Hp} {q : Addr} {xs : List V} {ds : List D} (h : SqL c.K S q xs) (rr : RpA c.K c.cm S xs ds) : Gives c H0 S (Itl c.K q) ds := by
  refine ⟨_, _, by rw [← rr.length]; exact walk_list (K := c.K) (a := q) (xs := xs), fun S'' H'' e1 e2 _ => e2.l (e1.l h), fun i S1 H1 x H2 hi e1 e2 y => ?_⟩
  obtain ⟨rfl, hx⟩ := y
  obtain ⟨d, h1, h2⟩ := rr.getV hx
  exact ⟨S1, d, Fwd.refl e2, h1, h2.mono e1⟩
theorem gives_tup {c : Cf} {H0 S : Hp} {q : Addr} {xs : List V} {ds : List D} (h : SqT c.K S q xs) (rr : RpA c.K c.cm S xs ds) : Gives c H0 S (Itt c.K q) ds := by
  refine ⟨_, _, by rw [← rr.length]; exact walk_tup (K := c.K) (a := q) (xs := xs), fun S'' H'' e1 e2 _ => e2.t (e1.t h), fun i S1 H1 x H2 hi e1 e2 y => ?_⟩
  obtain ⟨rfl, hx⟩ := y
  obtain ⟨d, h1, h2⟩ := rr.getV hx
  exact ⟨S1, d, Fwd.refl e2, h1, h2.mono e1⟩
variable {tg : Expr}
theorem di_list (he : PE X e (tV c G f)) (hK : c.K = X.K := by rfl) : PI X tg e (iD c G (dIt itemsL f)) := pi_imp (pi_list he) fun σ H R ⟨S0, H0, S, r, ok, p⟩ => rd_seq ok p fun d v S1 H1 w1 o1 m1 p1 => by
  rw [← hK]
  cases d with
  | lst ds =>
    cases m1 with | @lst q xs _ h rr =>
    exact ⟨q, rfl, ⟨xs, .inl (.inl (o1.ex _ _ h))⟩, p1.go o1.ex _ (gives_list (.inl (.inl h)) rr)⟩
  | fz ds =>
    cases m1 with | @fz q xs _ h rr =>
    exact ⟨q, rfl, ⟨xs, o1.ex.l h⟩, p1.go o1.ex _ (gives_list h rr)⟩
  | _ => exact p1.elim
theorem di_tup (he : PE X e (tV c G f)) (hK : c.K = X.K := by rfl) : PI X tg e (iD c G (dIt itemsT f)) := pi_imp (pi_tup he) fun σ H R ⟨S0, H0, S, r, ok, p⟩ => rd_seq ok p fun d v S1 H1 w1 o1 m1 p1 => by
  rw [← hK]
  cases d with
  | tup ds =>
    cases m1 with | @tup q xs _ h rr =>
    exact ⟨q, rfl, ⟨xs, .inl (.inl (o1.ex _ _ h))⟩, p1.go o1.ex _ (gives_tup (.inl (.inl h)) rr)⟩
  | _ => exact p1.elim
/-- a borrowed list: a parameter's slot -/
theorem di_bor (i : Nat) {x : Str} (he : PE X (.Name x pos) (tVar i)) (k : kd G i = .b) (hK : c.K = X.K := by rfl) : PI X tg (.Name x pos) (iD c G (dIt itemsL (dVar i))) := pi_imp (pi_list he) fun σ H R ⟨S0, H0, S, r, ok, p⟩ => by
  obtain ⟨d, hd, p⟩ := of_dVar (p.unbind)
  obtain ⟨v, h1, h2⟩ := ok.slot i d hd
  rw [k] at h2
  have p1 := p.go ok.ex
  refine ⟨v, h1, ?_⟩
  rw [← hK]
  cases d with
  | lst ds =>
    rcases h2 with h2 | ⟨q, ho, rfl, h3, h4⟩
    · cases h2 with | @lst q xs _ h rr =>
      exact ⟨q, rfl, ⟨xs, .inl (.inl (ok.ex _ _ h))⟩, p1.go ok.ex _ (gives_list (.inl (.inl h)) rr)⟩
    · cases h4 with | @lst xs _ rr =>
      refine ⟨q, rfl, ⟨xs, .inl (.inl (ok.fwd.h _ _ h3))⟩, p1.go ok.ex _ ⟨_, _, by rw [← rr.length]; exact walk_list (K := c.K) (a := q) (xs := xs), fun S'' H'' e1 e2 e3 => show SqL c.K H'' q xs from .inl (.inl (e3 _ _ h3)), fun i S1 H1 x H2 hi e1 e2 y => ?_⟩⟩
      obtain ⟨rfl, hx⟩ := y
      obtain ⟨d, h1, h2⟩ := rr.getV hx
      exact ⟨S1, d, Fwd.refl e2, h1, h2.mono e1⟩
  | fz ds =>
    rcases h2 with h2 | ⟨q, ho, rfl, h3, h4⟩
    · cases h2 with | @fz q xs _ h rr =>
      exact ⟨q, rfl, ⟨xs, ok.ex.l h⟩, p1.go ok.ex _ (gives_list h rr)⟩
    · cases h4
  | _ => exact p1.elim
/-- range(n), range(a, b) -/
def rngL (lo : Int) (n : Nat) : List D := (List.range n).map fun (i : Nat) => D.int (lo + (i : Int))
theorem gives_rng {c : Cf} {H0 S : Hp} {lo : Int} {n : Nat} : Gives c H0 S (Itr lo n) (rngL lo n) := by
  have hl : (rngL lo n).length = n := by unfold rngL; simp
  refine ⟨_, _, by rw [hl]; exact walk_range, fun _ _ _ _ _ => trivial, fun i S1 H1 x H2 hi e1 e2 y => ?_⟩
  obtain ⟨rfl, rfl⟩ := y
  rw [hl] at hi
  exact ⟨S1, .int (lo + (i : Int)), Fwd.refl e2, by unfold rngL; simp [hi], .int _⟩
noncomputable def rng1 : List D → Res (List D)
  | [.int n] => guard (-4611686018427387904 ≤ n ∧ n < 4611686018427387904) (.ok (rngL 0 n.toNat))
  | _ => .bad
def dIts (g : List D → Res (List D)) (fs : Rho → Res (List D)) : Rho → Res (List D) := fun r => (fs r).bind g
theorem di_rng1 {p : Pos} {fs : Rho → Res (List D)} (hm : X.mg "range" = none) (hg : Gl X "range") (ha : PA X [a] (tAs c G fs)) (hs : starEach [a] X.env = [(false, eval a X.env)] := by rfl) : PI X tg (.Call (.Name "range" p) [a] [] pos) (iD c G (dIts rng1 fs)) :=
  pi_imp (pi_range1 hg hm ha hs) fun σ H R ⟨S0, H0, S, r, ok, p⟩ => rd_seq ok p fun ds vs S1 H1 w1 o1 m1 p1 => by
    unfold rng1 at p1
    split at p1
    · obtain ⟨hl, p1⟩ := p1.gd
      match vs, m1 with
      | _, .cons h .nil => cases h; exact ⟨_, rfl, by have := hl.1; omega, by have := hl.2; omega, p1.go o1.ex _ gives_rng⟩
    · exact p1.elim
/-- the signs of a text -/
def signs (z : Str) : List D := z.cps.toList.map fun n => .str ⟨#[n]⟩
def itemsS : D → Res (List D)
  | .str z => .ok (signs z)
  | _ => .bad
theorem di_str (he : PE X e (tV c G f)) : PI X tg e (iD c G (dIt itemsS f)) := pi_imp (pi_str he) fun σ H R ⟨S0, H0, S, r, ok, p⟩ => rd_seq ok p fun d v S1 H1 w1 o1 m1 p1 => by
  cases d with
  | str z =>
    cases m1
    have hl : (signs z).length = z.cps.size := by unfold signs; simp
    refine ⟨z, rfl, p1.go o1.ex _ ⟨_, _, by rw [hl]; exact walk_str (z := z), fun _ _ _ _ _ => trivial, fun i S2 H2 x H3 hi e1 e2 y => ?_⟩⟩
    obtain ⟨rfl, n, hn, rfl⟩ := y
    refine ⟨S2, .str ⟨#[n]⟩, Fwd.refl e2, ?_, .str _⟩
    unfold signs
    rw [List.getElem?_map, Array.getElem?_toList, hn]; rfl
  | _ => exact p1.elim
def loopF (t : D → Rho → Res Rho) (F : Rho → SR) : List D → Rho → SR
  | [], r => .nx r
  | d :: ds, r => match t d r with
    | .ok r1 => match F r1 with
      | .nx r2 => loopF t F ds r2
      | .ct r2 => loopF t F ds r2
      | .bk r2 => .nx r2
      | o => o
    | _ => .bad
def forF (its : Rho → Res (List D)) (t : D → Rho → Res Rho) (F : Rho → SR) : Rho → SR := fun r => liftS r (its r) fun ds => loopF t F ds r
theorem ds_for {iter : Expr} {body : List Stmt} {its : Rho → Res (List D)} {ks : List Nat} {t : D → Rho → Res Rho} {F : Rho → SR} (hg : Gok c G) (hp : PassesOwn (model X.prog X.w) X.A X.env X.xe) (hc : X.calm = true) (hi : PI X tg iter (iD c G its)) (ht : PG X tg (gD c G G' ks t)) (hb : PSs X body (sD c G G' G F))
    (hs : ∀ x, foldedSetIterable iter X.env x = pure x := by intro _; rfl) : PS X (.For tg iter body [] pos) (sD c L G G (forF its t F)) :=
  ps_imp (ps_for hp hc hi ht hb hs) fun E σ H ⟨S0, H0, S, r, ok, p⟩ => by
    refine ⟨S0, H0, S, r, ok, ?_⟩
    unfold forF at p
    cases hf : its r with
    | err n ns vs =>
      rw [hf] at p
      exact fun C dd S' H' fs h1 fw h2 h3 h4 => p C dd σ S' H' fs h1 (ok.fwd.trans fw) (fun g q => by rw [hg g q]; exact ok.go fw) h2 h3 h4
    | bad => rw [hf] at p; exact p.elim
    | ok ds =>
      rw [hf] at p
      intro S1 H1 w1 J ⟨Gd, Y, wk, hG, hY⟩
      have p : PostS c S0 H0 L G (loopF t F ds r) E := p
      refine for_it wk (fun i σ' H' => ∃ S' r', Ex S1 S' ∧ EnvOk c S0 H0 G S' H' σ' r' ∧ PostS c S0 H0 L G (loopF t F (ds.drop i) r') E) ⟨S1, r, Ex.refl, ok.go w1, by rw [List.drop_zero]; exact p⟩ ?_ ?_ ?_
      · rintro i σ' H' _ ⟨S', r', e1, ok', _⟩
        exact hG S' H' e1 ok'.ex ok'.fwd.h
      · rintro i x σ' H' H2 hi ⟨S', r', e1, ok', p'⟩ y
        obtain ⟨S2, d, fw, hd, hx⟩ := hY i S' H' x H2 hi e1 ok'.ex y
        have hdrop : ds.drop i = d :: ds.drop (i + 1) := by
          rw [List.drop_eq_getElem_cons hi]
          rw [List.getElem?_eq_getElem hi] at hd
          cases hd; rfl
        rw [hdrop] at p'
        unfold loopF at p'
        refine ⟨S0, H0, S2, r', d, ok'.go fw, hx, ?_⟩
        cases htt : t d r' with
        | err _ _ _ => rw [htt] at p'; exact p'.elim
        | bad => rw [htt] at p'; exact p'.elim
        | ok r1 =>
          rw [htt] at p'
          intro σ3 _ ok3
          refine ⟨S2, H0, S2, r1, ok3.rebase, ?_⟩
          dsimp only at p'
          have fin : ∀ σ4 S4 H4 r4, EnvOk c S2 H0 G S4 H4 σ4 r4 → PostS c S0 H0 L G (loopF t F (ds.drop (i + 1)) r4) E → ∃ S' r', Ex S1 S' ∧ EnvOk c S0 H0 G S' H4 σ4 r' ∧ PostS c S0 H0 L G (loopF t F (ds.drop (i + 1)) r') E := fun σ4 S4 H4 r4 e4 p4 =>
            ⟨S4, r4, (e1.trans fw.s).trans e4.fwd.s, e4.unbase ok3.fwd, p4⟩
          cases hF : F r1 with
          | nx r2 => rw [hF] at p'; exact fun σ4 S4 H4 e4 => fin σ4 S4 H4 r2 e4 p'
          | ct r2 => rw [hF] at p'; exact fun σ4 S4 H4 e4 => fin σ4 S4 H4 r2 e4 p'
          | bk r2 => rw [hF] at p'; exact fun σ4 S4 H4 e4 => p' σ4 S4 H4 (e4.unbase ok3.fwd)
          | rt d => rw [hF] at p'; exact PostS.rebase (c := c) (o := .rt d) (E := E) ok3.fwd p'
          | er r2 n ns vs => rw [hF] at p'; exact PostS.rebase (c := c) (o := .er r2 n ns vs) (E := E) ok3.fwd p'
          | bad => rw [hF] at p'; exact p'.elim
      · rintro σ' H' ⟨S', r', e1, ok', p'⟩
        rw [List.drop_length] at p'
        exact p' σ' S' H' ok'
end
end Dx
end S_DxE
section S_DxF
set_option Elab.async false
set_option linter.all false
set_option maxRecDepth 100000
set_option maxHeartbeats 2000000
namespace Dx
open PySem L2
def wipeR (r : Rho) : List Nat → Rho
  | [] => r
  | v :: vs => (wipeR r vs).set v none
theorem wipeR_len (r : Rho) : ∀ vs : List Nat, (wipeR r vs).length = r.length
  | [] => rfl
  | v :: vs => by show ((wipeR r vs).set v none).length = _; rw [List.length_set, wipeR_len r vs]
theorem wipeR_some {r : Rho} {i : Nat} {d : D} : ∀ {vs : List Nat}, (wipeR r vs)[i]? = some (some d) → r[i]? = some (some d) ∧ i ∉ vs
  | [], h => ⟨h, by simp⟩
  | v :: vs, h => by
    rcases set_some (l := wipeR r vs) h with ⟨_, e, _⟩ | ⟨ne, h⟩
    · cases e
    · obtain ⟨h1, h2⟩ := wipeR_some h
      exact ⟨h1, by simp [Ne.symm ne, h2]⟩
/-- within a comprehension nothing is raised -/
abbrev Cf.calm (c : Cf) : Cf := ⟨c.K, c.cm, fun _ _ _ _ => False, none, c.rm⟩
section
variable {X : Cx} {c : Cf} {L G G' : List Ow} {σ : St} {S0 H0 S H : Hp} {r : Rho}
theorem EnvOk.wiped (e : EnvOk c S0 H0 G S H σ r) (vs : List Nat) : EnvOk c.calm S0 H0 G S H (wipe σ vs) (wipeR r vs) := by
  refine ⟨e.fwd, by rw [wipe_length, wipeR_len, e.len], fun i d h => ?_, fun i j d d' p hi hj ki kj si sj => ?_, let ⟨A, hA⟩ := e.sto; ⟨A, hA.sub (fun a ha => (hA.out a ha).1) (fun _ _ => rfl) Ex.refl (fun i d p hi ki si => hA.own i d p (wipeR_some hi).1 ki (wipe_some si).1) fun i d ki hi => ⟨rfl, (wipeR_some hi).1, by rw [wipe_get, if_neg (wipeR_some hi).2]⟩⟩⟩
  · obtain ⟨h1, h2⟩ := wipeR_some h
    obtain ⟨v, h3, h4⟩ := e.slot i d h1
    exact ⟨v, by rw [wipe_get, if_neg h2]; exact h3, h4⟩
  · exact e.sep i j d d' p (wipeR_some hi).1 (wipeR_some hj).1 ki kj (wipe_some si).1 (wipe_some sj).1
theorem Fwd.put {S' H' : Hp} {p : Addr} {o : HO} (f : Fwd S H S' H') (n : H p = none) (ns : S' p = none) : Fwd S H S' (upd H' p o) := ⟨f.s, f.h.put n, f.sub.put ns, f.new⟩
def lcLoop (t : D → Rho → Res Rho) (tt : Rho → Res Bool) (fe : Rho → Res D) (rw : Rho) : List D → Res (List D)
  | [] => .ok []
  | d :: ds => match t d rw with
    | .ok r1 => match tt r1 with
      | .ok true => match fe r1 with
        | .ok x => match lcLoop t tt fe rw ds with
          | .ok xs => .ok (x :: xs)
          | _ => .bad
        | _ => .bad
      | .ok false => lcLoop t tt fe rw ds
      | _ => .bad
    | _ => .bad
noncomputable def dLc (its : Rho → Res (List D)) (t : D → Rho → Res Rho) (tt : Rho → Res Bool) (fe : Rho → Res D) (vs : List Nat) : Rho → Res D := fun r => (its r).bind fun ds => guard (ds.length ≤ sizeLine) (match lcLoop t tt fe (wipeR r vs) ds with
  | .ok xs => .ok (.lst xs)
  | _ => .bad)
def dYes : Rho → Res Bool := fun _ => .ok true
/-- what is walked, as long as nothing that is there changes -/
def iDl (c : Cf) (G : List Ow) (f : Rho → Res (List D)) : TI := fun σ H R => ∃ S0 H0 S r, EnvOk c S0 H0 G S H σ r ∧ PostG c σ S H (f r) fun ds S' H' => ∀ J, Gives c H' S' J ds → R J H'
theorem pi_l {tg it : Expr} {f : Rho → Res (List D)} (h : PI X tg it (iD c G f)) : PI X tg it (iDl c G f) := pi_imp h fun σ H R ⟨S0, H0, S, r, ok, p⟩ => ⟨S0, H0, S, r, ok, p.imp fun ds S' H' fw hk J gv => hk J (let ⟨Gd, Y, h1, h2, h3⟩ := gv; ⟨Gd, Y, h1, fun S'' H'' e1 e2 e3 => h2 S'' H'' e1 e2 ((ok.fwd.h.trans fw.h).trans e3), h3⟩)⟩
theorem lc_rd {its : Rho → Res (List D)} {t : D → Rho → Res Rho} {tt : Rho → Res Bool} {fe : Rho → Res D} {vs : List Nat} : ∀ σ H Q, tO c G (dLc its t tt fe vs) σ H Q →
    tLc (iDl c G its) (gD c.calm G G' vs t) (tT c.calm G' tt) (tV c.calm G' fe) vs σ H Q := fun σ H Q ⟨S0, H0, S, r, ok, p⟩ => by
  refine ⟨S0, H0, S, r, ok, p.unbind.imp fun ds S1 H1 w1 p1 J gv Dl hD => ?_⟩
  obtain ⟨hl, p1⟩ := p1.gd
  obtain ⟨Gd, Y, wk, hG, hY⟩ := gv
  have ok1 := ok.go w1
  split at p1
  · rename_i res hres
    have okw := ok1.wiped vs
    have nS : S1 Dl = none := ok1.ex.nn hD
    refine lc_it wk (fun i H' => ∃ S' acc accD rest, Fwd S1 H1 S' H' ∧ S' Dl = none ∧ H' Dl = some (.lst acc) ∧ RpA c.K c.cm S' acc accD ∧ lcLoop t tt fe (wipeR r vs) (ds.drop i) = .ok rest ∧ accD ++ rest = res ∧ accD.length ≤ i)
      ⟨S1, [], [], res, Fwd.heap ok1.ex hD, nS, upd_same, .nil, by rw [List.drop_zero]; exact hres, rfl, Nat.le_refl _⟩ ?_ ?_ ?_
    · rintro i H' _ ⟨S', acc, accD, rest, fw, _⟩
      exact hG S' H' fw.s fw.sub fw.h
    · rintro i x H' H2 hi ⟨S', acc, accD, rest, fw, n1, h1, r1, hr, ha, hn⟩ y
      obtain ⟨S2, d, fw2, hd, hx⟩ := hY i S' H' x H2 hi fw.s fw.sub y
      have hdrop : ds.drop i = d :: ds.drop (i + 1) := by
        rw [List.drop_eq_getElem_cons hi]
        rw [List.getElem?_eq_getElem hi] at hd
        cases hd; rfl
      rw [hdrop] at hr
      unfold lcLoop at hr
      refine ⟨S0, H0, S2, wipeR r vs, d, okw.go (fw.trans fw2), hx, ?_⟩
      cases ht : t d (wipeR r vs) with
      | err _ _ _ => rw [ht] at hr; cases hr
      | bad => rw [ht] at hr; cases hr
      | ok r2 =>
        rw [ht] at hr
        dsimp only at hr
        intro σ3 z3 ok3
        have hz : L2.wipe (L2.wipe σ vs) vs = L2.wipe σ vs := by
          apply List.ext_getElem?
          intro k
          rw [wipe_get, wipe_get]
          split
          · cases σ[k]? <;> rfl
          · rfl
        have keepN : ∀ S4 H4, Fwd S' H' S4 H4 → S4 Dl = none := fun S4 H4 f4 => by
          cases q : S4 Dl with
          | none => rfl
          | some u => obtain ⟨_, z⟩ := (f4.new Dl u q n1).not h1; cases z
        refine ⟨z3.trans hz, S0, H0, S2, r2, ok3, ?_⟩
        cases htt : tt r2 with
        | err _ _ _ => rw [htt] at hr; cases hr
        | bad => rw [htt] at hr; cases hr
        | ok b =>
          rw [htt] at hr
          intro S4 H4 w4 b' hb
          cases hb
          have f4 := fw2.trans w4
          cases b with
          | false =>
            dsimp only at hr
            rw [if_neg (by decide)]
            exact ⟨S4, acc, accD, rest, fw.trans f4, keepN S4 H4 f4, f4.h _ _ h1, r1.mono f4.s, hr, ha, Nat.le_succ_of_le hn⟩
          | true =>
            dsimp only at hr
            rw [if_pos rfl]
            refine ⟨S0, H0, S4, r2, ok3.go w4, ?_⟩
            cases hfe : fe r2 with
            | err _ _ _ => rw [hfe] at hr; cases hr
            | bad => rw [hfe] at hr; cases hr
            | ok x2 =>
              rw [hfe] at hr
              dsimp only at hr
              cases hlc : lcLoop t tt fe (wipeR r vs) (ds.drop (i + 1)) with
              | err _ _ _ => rw [hlc] at hr; cases hr
              | bad => rw [hlc] at hr; cases hr
              | ok xs2 =>
                rw [hlc] at hr
                cases hr
                intro S5 H5 w5 y5 hy5
                have f5 := f4.trans w5
                refine ⟨acc, f5.h _ _ h1, ?_, S5, acc ++ [y5], accD ++ [x2], xs2, (fw.trans f5).put hD (keepN S5 H5 f5), keepN S5 H5 f5, upd_same, (r1.mono f5.s).app (.one hy5), rfl, ?_, ?_⟩
                · rw [r1.length]; omega
                · rw [← ha, List.append_assoc]; rfl
                · simp; omega
    · rintro H' ⟨S', acc, accD, rest, fw, n1, h1, r1, hr, ha, hn⟩
      rw [List.drop_length] at hr
      cases hr
      rw [List.append_nil] at ha
      subst ha
      exact p1 S' H' fw _ ⟨Dl, .lst acc, rfl, w1.h.nn hD, n1, h1, .lst r1⟩
  · exact p1.elim
theorem de_lc {elt tg iter : Expr} {ifs : List Expr} {scope : Scope} {own : List (Str × Nat)} {pos : Pos} {its : Rho → Res (List D)} {t : D → Rho → Res Rho} {tt : Rho → Res Bool} {fe : Rho → Res D} (hc : X.calm = true) (hN : X.N.Nodup) (hi : PI X tg iter (iD c G its)) (ok : BlkOk X.N X.env.scope scope own)
    (hg : ∀ (s : Shared) (H : Hp) (C : Addr) (cl : List (Str × Addr)) (fp : List Addr), PG (X.blk s H scope (compEnvC scope cl C X.env) fp) tg (gD c.calm G G' (own.map (·.2)) t)) (ht : ∀ (s : Shared) (H : Hp) (C : Addr) (cl : List (Str × Addr)) (fp : List Addr), PTs (X.blk s H scope (compEnvC scope cl C X.env) fp) ifs (tT c.calm G' tt))
    (he : ∀ (s : Shared) (H : Hp) (C : Addr) (cl : List (Str × Addr)) (fp : List Addr), PE (X.blk s H scope (compEnvC scope cl C X.env) fp) elt (tV c.calm G' fe)) (hs : ∀ x, foldedSetIterable iter X.env x = pure x := by intro _; rfl) :
    PE X (.ListComp elt [⟨tg, iter, ifs, 0⟩] scope pos) (tO c G (dLc its t tt fe (own.map (·.2)))) := pe_imp (pe_lc hc hN (pi_l hi) ok hg ht he hs) lc_rd
theorem dt_nil : PTs X [] (tT c G dYes) := ⟨fun pins s σ H Q I ⟨S0, H0, S, r, ok, p⟩ => pts_nil.run pins s σ H Q I (p.go ok.ex _ rfl)⟩
theorem dt_one {cnd : Expr} {tt : Rho → Res Bool} (h : PT X cnd (tT c G tt)) : PTs X [cnd] (tT c G tt) := pts_one h
end
/-- the mode of its result: own, or a value -/
def mR (c : Cf) (rm : Bool) : Md V D := if rm then mO c else mV c
instance {c : Cf} {rm : Bool} : Anti (mR c rm) := by
  cases rm with
  | true => exact (inferInstance : Anti (mO c))
  | false => exact (inferInstance : Anti (mV c))
/-- F by data; ms the arguments' modes; rm whether the result is a new object that nothing else holds -/
def spD (K : PySem.W.Frag) (cm : CM) (ms : List Bool) (rm : Bool) (F : List D → Res D) : Sp := fun vs H Q E => ∃ S ds, Ex S H ∧ RpM ⟨K, cm, fun _ _ _ _ => False, none, rm⟩ S H ms vs ds ∧
  PostG ⟨K, cm, fun cls d _ H => E cls d H, none, rm⟩ [] S H (F ds) fun a S' H' => ∀ b, mR ⟨K, cm, fun _ _ _ _ => False, none, rm⟩ rm H S' H' b a → Q b H'
section
variable {X : Cx} {c : Cf} {L G G' : List Ow} {k : Nat} {f : Addr} {fd : FuncData} {ps : List Str} {x : Str} {p pos : Pos} {e : Expr} {es : List Expr} {fs : Rho → Res (List D)} {ms : List Bool} {rm : Bool} {F : List D → Res D}
theorem RpM.cf {c c' : Cf} {S H : Hp} (hK : c.K = c'.K) (hm : c.cm = c'.cm) : ∀ {ms : List Bool} {vs : List V} {ds : List D}, RpM c S H ms vs ds → RpM c' S H ms vs ds
  | [], [], [], _ => trivial
  | true :: ms, v :: vs, d :: ds, h => ⟨by rw [← hK, ← hm]; exact h.1, RpM.cf hK hm h.2⟩
  | false :: ms, v :: vs, d :: ds, h => ⟨by rw [← hK, ← hm]; exact h.1, RpM.cf hK hm h.2⟩
  | [], _ :: _, _, h => h.elim
  | [], [], _ :: _, h => h.elim
  | true :: _, [], _, h => h.elim
  | true :: _, _ :: _, [], h => h.elim
  | false :: _, [], _, h => h.elim
  | false :: _, _ :: _, [], h => h.elim
theorem call_rd {E : XK} {σ : St} {S H : Hp} {vs : List V} {ds : List D} {Q : VK} (hE : ∀ cls d H, c.W cls d σ H → E cls d H) (ex : Ex S H) (m : RpM c S H ms vs ds)
    (q : PostG c σ S H (F ds) fun a S' H' => ∀ b, mR c rm H S' H' b a → Q b H') : spD c.K c.cm ms rm F vs H Q E := by
  refine ⟨S, ds, ex, RpM.cf (c := c) (c' := ⟨c.K, c.cm, fun _ _ _ _ => False, none, rm⟩) rfl rfl m, ?_⟩
  cases hF : F ds with
  | ok a =>
    rw [hF] at q
    intro S' H' w b hb
    refine q S' H' w b ?_
    cases rm with
    | true => exact hb
    | false => exact hb
  | err n ns vs => rw [hF] at q; exact fun C dd S' H' fs h1 w h2 h3 h4 => hE _ _ _ (q C dd S' H' fs h1 w h2 h3 h4)
  | bad => rw [hF] at q; exact q.elim
/-- f(e, ..), f a def of the text -/
theorem de_call (F1 : FnOk X.prog X.w X.K X.mg X.base (L2.CX X.prog X.w) k f fd ps (spD c.K c.cm ms rm F)) (tk : Takes X c.W) (hr : Room k X.A) (hg : Gl X x) (hm : X.mg x = some (.ref f)) (hk : PySem.W.keepIn X.K (.ref f) = true) (hb : Binds X.K fd ps [])
    (ha : PA X (e :: es) (tM c G ms fs)) (hdb : (x == ("__debug__" : Str)) = false := by decide) (he : starEach (e :: es) X.env = (false, eval e X.env) :: starEach es X.env := by rfl) (hpl : (backTo pos (starEach es X.env)).any (·.1) = false := by rfl) :
    PE X (.Call (.Name x p) (e :: es) [] pos) (rd c G (dCall F fs) (mR c rm)) :=
  pe_imp (pe_callSD (E := fun σ cls d H => c.W cls d σ H) F1 hr hg hm hk hb .nil (fun σ => passAt tk σ) ha hdb he hpl) fun σ H Q ⟨S0, H0, S, r, ok, q⟩ => rd_seq ok q fun ds vs S1 H1 w1 o1 m1 p1 => by
    rw [List.append_nil]
    exact call_rd (fun _ _ _ h => h) o1.ex m1 (p1.anti w1.h)
theorem de_callV (F1 : FnOk X.prog X.w X.K X.mg X.base (L2.CX X.prog X.w) k f fd ps (spD c.K c.cm ms false F)) (tk : Takes X c.W) (hr : Room k X.A) (hg : Gl X x) (hm : X.mg x = some (.ref f)) (hk : PySem.W.keepIn X.K (.ref f) = true) (hb : Binds X.K fd ps [])
    (ha : PA X (e :: es) (tM c G ms fs)) (hdb : (x == ("__debug__" : Str)) = false := by decide) (he : starEach (e :: es) X.env = (false, eval e X.env) :: starEach es X.env := by rfl) (hpl : (backTo pos (starEach es X.env)).any (·.1) = false := by rfl) :
    PE X (.Call (.Name x p) (e :: es) [] pos) (tV c G (dCall F fs)) := de_call F1 tk hr hg hm hk hb ha hdb he hpl
def startR (n : Nat) (ds : List D) : Rho := ds.map some ++ List.replicate (n - ds.length) none
def G0 (ms : List Bool) (n : Nat) : List Ow := ms.map (fun m => if m then .b else .v) ++ List.replicate (n - ms.length) .v
def runF (n : Nat) (rm : Bool) (Fb : Rho → SR) (ds : List D) : Res D := match Fb (startR n ds) with
  | .rt d => .ok d
  | .nx _ => if rm then .bad else .ok .non
  | .er _ n ns vs => .err n ns vs
  | _ => .bad
theorem RpM.get {S H : Hp} : ∀ {ms : List Bool} {vs : List V} {ds : List D} {i : Nat} {d : D}, RpM c S H ms vs ds → ds[i]? = some d → ∃ v m, vs[i]? = some v ∧ ms[i]? = some m ∧ SlotOk c H S H (if m then .b else .v) v d
  | [], [], [], _, _, _, h => by simp at h
  | true :: ms, v :: vs, d :: ds, 0, e, h, q => by simp at q; subst q; exact ⟨v, true, by simp, by simp, h.1⟩
  | false :: ms, v :: vs, d :: ds, 0, e, h, q => by simp at q; subst q; exact ⟨v, false, by simp, by simp, h.1⟩
  | true :: ms, v :: vs, d :: ds, i + 1, e, h, q => by
    obtain ⟨v, m, h1, h2, h3⟩ := RpM.get (i := i) h.2 (by simpa using q)
    exact ⟨v, m, by simpa using h1, by simpa using h2, h3⟩
  | false :: ms, v :: vs, d :: ds, i + 1, e, h, q => by
    obtain ⟨v, m, h1, h2, h3⟩ := RpM.get (i := i) h.2 (by simpa using q)
    exact ⟨v, m, by simpa using h1, by simpa using h2, h3⟩
  | [], _ :: _, _, _, _, h, _ => h.elim
  | [], [], _ :: _, _, _, h, _ => h.elim
  | true :: _, [], _, _, _, h, _ => h.elim
  | true :: _, _ :: _, [], _, _, h, _ => h.elim
  | false :: _, [], _, _, _, h, _ => h.elim
  | false :: _, _ :: _, [], _, _, h, _ => h.elim
theorem RpM.len {S H : Hp} : ∀ {ms : List Bool} {vs : List V} {ds : List D}, RpM c S H ms vs ds → vs.length = ms.length ∧ ds.length = ms.length
  | [], [], [], _ => ⟨rfl, rfl⟩
  | true :: ms, v :: vs, d :: ds, h => by have := RpM.len h.2; simp [this.1, this.2]
  | false :: ms, v :: vs, d :: ds, h => by have := RpM.len h.2; simp [this.1, this.2]
  | [], _ :: _, _, h => h.elim
  | [], [], _ :: _, h => h.elim
  | true :: _, [], _, h => h.elim
  | true :: _, _ :: _, [], h => h.elim
  | false :: _, [], _, h => h.elim
  | false :: _, _ :: _, [], h => h.elim
theorem kd_G0 {ms : List Bool} {n i : Nat} : ¬ isO (kd (G0 ms n) i) := by
  unfold kd G0
  rw [List.getD_eq_getElem?_getD, List.getElem?_append]
  split
  · rw [List.getElem?_map]
    cases ms[i]? with
    | none => intro h; cases h
    | some m => cases m <;> (intro h; cases h)
  · rw [List.getElem?_replicate]
    split <;> (intro h; cases h)
theorem kd_G0_sw {ms : List Bool} {n i : Nat} : (∀ P, kd (G0 ms n) i ≠ .s P) ∧ kd (G0 ms n) i ≠ .w := by
  unfold kd G0
  rw [List.getD_eq_getElem?_getD, List.getElem?_append]
  split
  · rw [List.getElem?_map]
    cases ms[i]? with
    | none => exact ⟨fun _ h => (by cases h), fun h => (by cases h)⟩
    | some m => cases m <;> exact ⟨fun _ h => (by cases h), fun h => (by cases h)⟩
  · rw [List.getElem?_replicate]
    split <;> exact ⟨fun _ h => (by cases h), fun h => (by cases h)⟩
theorem kd_G0_at {ms : List Bool} {n i : Nat} {m : Bool} (h : ms[i]? = some m) : kd (G0 ms n) i = if m then .b else .v := by
  unfold kd G0
  have hl : i < ms.length := (List.getElem?_eq_some_iff.mp h).1
  rw [List.getD_eq_getElem?_getD, List.getElem?_append, if_pos (by simpa using hl), List.getElem?_map, h]
  rfl
theorem startR_some {n i : Nat} {ds : List D} {d : D} (h : (startR n ds)[i]? = some (some d)) : ds[i]? = some d := by
  unfold startR at h
  rw [List.getElem?_append] at h
  split at h
  · rw [List.getElem?_map] at h
    cases q : ds[i]? with
    | none => rw [q] at h; cases h
    | some e => rw [q] at h; cases h; rfl
  · rw [List.getElem?_replicate] at h
    split at h <;> cases h
theorem env_start {N : List Str} {S H : Hp} {vs : List V} {ds : List D} (ex : Ex S H) (m : RpM c S H ms vs ds) (hn : ms.length ≤ N.length) : EnvOk c S H (G0 ms N.length) S H (L2.start N vs) (startR N.length ds) := by
  have hl := m.len
  refine ⟨Fwd.refl ex, by unfold L2.start startR; simp [hl.1, hl.2], fun i d h => ?_, fun i j d e p _ _ k _ _ _ => absurd k kd_G0, ⟨[], .nil fun _ _ _ => kd_G0_sw⟩⟩
  have hd := startR_some h
  obtain ⟨v, mm, h1, h2, h3⟩ := m.get hd
  refine ⟨v, ?_, by rw [kd_G0_at h2]; exact h3⟩
  unfold L2.start
  have hlt : i < vs.length := (List.getElem?_eq_some_iff.mp h1).1
  rw [List.getElem?_append, if_pos (by simpa using hlt), List.getElem?_map, h1]
  rfl
end
section
variable {P : Program} {w : World} {K : PySem.W.Frag} {mg : Str → Option Value} {base : Heap} {cm : CM}
abbrev cfE (K : PySem.W.Frag) (cm : CM) (rm : Bool) (E : XK) : Cf := ⟨K, cm, fun cls d _ H => E cls d H, none, rm⟩
/-- THE RULE for a def: its body by data -/
theorem dok {x qual : Str} {st : Stmt} {f : Addr} {fd : FuncData} {N ps : List Str} {k : Nat} {ms : List Bool} {rm : Bool} {G' : List Ow} {Fb : Rho → SR} (F : Fun K x qual st f fd) (S : FnScope N ps (defScope st)) (hm : ms.length = ps.length) (hn : ps.length ≤ N.length)
    (hb : ∀ (cdv : Value) (A : Around) (outer : List Env) (s : Shared) (H : Hp) (E : XK), Room k (A.deeper (PyProof.Rows.envOfC qual (defScope st) s.heap.objs.size f cdv)) →
      PSs (cxOf (L2.CX P w) P w K mg base N qual (defScope st) f cdv A outer s H E) (defBody st) (sD (cfE K cm rm E) [] (G0 ms N.length) G' Fb)) :
    FnOk P w K mg base (L2.CX P w) (k + 1) f fd ps (spD K cm ms rm (runF N.length rm Fb)) := by
  refine F.okX S (fun vs H Q E h => ?_) (fun cdv A outer s H vs Q E hr h => ?_)
  · obtain ⟨S, ds, _, m, _⟩ := h
    rw [m.len.1, hm]
  · obtain ⟨S, ds, ex, m, q⟩ := h
    refine ⟨_, hb cdv A outer s H E hr, S, H, S, startR N.length ds, env_start ex (RpM.cf (c := ⟨K, cm, fun _ _ _ _ => False, none, rm⟩) (c' := cfE K cm rm E) rfl rfl m) (by omega), ?_⟩
    unfold runF at q
    cases hF : Fb (startR N.length ds) with
    | rt d =>
      rw [hF] at q
      show PostS _ _ _ _ _ (.rt d) _
      unfold PostS
      dsimp only
      cases rm with
      | true => exact fun p ho S' H' fw n ns hp hh => q S' H' fw _ ⟨p, ho, rfl, n, ns, hp, hh⟩
      | false => exact fun v S' H' fw hv => q S' H' fw v hv
    | nx r =>
      rw [hF] at q
      cases rm with
      | true => exact q.elim
      | false => exact fun σ' S' H' ok => q S' H' ok.fwd _ Rp.non
    | er r n ns vs =>
      rw [hF] at q
      exact fun C dd σ' S' H' fs h1 fw _ h2 h3 h4 => q C dd S' H' fs h1 fw h2 h3 h4
    | bk r => rw [hF] at q; exact q.elim
    | ct r => rw [hF] at q; exact q.elim
    | bad => rw [hF] at q; exact q.elim
end
end Dx
end S_DxF
section S_DxG
set_option Elab.async false
set_option linter.all false
set_option maxRecDepth 100000
set_option maxHeartbeats 2000000
namespace Dx
open PySem L2
section
variable {X : Cx} {c : Cf} {L G G' : List Ow}
def spX1 (K : PySem.W.Frag) (C : Addr) (f : Str) : Sp := fun vs H Q _ => ∃ (a : Addr) (w : V), vs = [.ref a, w] ∧ OexC K C ∧ PySem.W.findIn K (.ref C) f = some none ∧ H a = some (exo a C none) ∧
  ∀ d, H d = none → d ≠ a → Q .non (upd (upd H d (exd d [(f, w)])) a (exo a C (some d)))
theorem xinit1 {P : Program} {w : World} {K : PySem.W.Frag} {mg : Str → Option Value} {base : Heap} {qual : Str} {st : Stmt} {fI C : Addr} {fd : FuncData} {N ps : List Str} {fl : Str} (F : Fun K "__init__" qual st fI fd) (S : FnScope N ps (defScope st)) (hl : ps.length = 2) (hN : N.length = 2)
    (hb : ∀ (cdv : Value) (A : Around) (outer : List Env) (s : Shared) (H : Hp) (E : XK), PSs (cxOf (L2.CX P w) P w K mg base N qual (defScope st) fI cdv A outer s H E) (defBody st) (tOst K fl (tVar 0) (tVar 1))) :
    FnOk P w K mg base (L2.CX P w) 1 fI fd ps (spX1 K C fl) := by
  refine F.okX (k := 0) S (fun vs H Q E h => ?_) (fun cdv A outer s H vs Q E hr h => ?_)
  · obtain ⟨a, w, rfl, _⟩ := h; exact hl.symm
  · obtain ⟨a, w', rfl, T, hno, ha, q⟩ := h
    refine ⟨_, hb cdv A outer s H E, ?_⟩
    have e : L2.start N [.ref a, w'] = [some (.ref a), some w'] := by unfold L2.start; rw [hN]; rfl
    rw [e]
    exact ⟨w', rfl, .ref a, rfl, a, C, rfl, T, hno, .inl ⟨ha, q⟩⟩
def raiF (n : Str) (ns : List Str) (rev : Bool) (fs : Rho → Res (List D)) : Rho → SR := fun r => liftS r (fs r) fun ds => if ds.length = ns.length then .er r n ns (if rev then ds.reverse else ds) else .bad
variable {e e2 : Expr} {fs : Rho → Res (List D)} {x n : Str} {C fI : Addr} {fd : FuncData} {ps : List Str} {p p' pos : Pos} {fl gl : Str}
theorem heap_x1 {H1 : Hp} {a d C : Addr} {o1 o2 o3 o4 o : HO} (ha : H1 a = none) (hne : d ≠ a) : upd (del (upd (upd (upd H1 a o1) d o2) a o3) a) d o = upd H1 d o := by
  funext b
  by_cases hb : b = d
  · subst hb; rw [upd_same, upd_same]
  · rw [upd_ne hb, upd_ne hb]
    by_cases hba : b = a
    · subst hba; rw [del_same, ha]
    · rw [del_ne hba, upd_ne hba, upd_ne hb, upd_ne hba]
theorem ds_raise1 (hg : Gok c G) (hcn : c.cm n = some C) (hc : X.calm = true) (tk : Takes X c.W) (T : OexC X.K C) (iC : PySem.W.findIn X.K (.ref C) "__init__" = some (some (.ref fI))) (tI : PySem.W.typeIn X.K (.ref fI) = some (.type "function")) (hno : PySem.W.findIn X.K (.ref C) fl = some none)
    (F1 : FnOk X.prog X.w X.K X.mg X.base (L2.CX X.prog X.w) 1 fI fd ps (spX1 X.K C fl)) (hr : Room 2 X.A) (hb : Binds X.K fd ps []) (hgx : Gl X x) (hm : X.mg x = some (.ref C)) (ha : PA X [e] (tAs c G fs))
    (hdb : (x == ("__debug__" : Str)) = false := by decide) (he : starEach [e] X.env = (false, eval e X.env) :: starEach [] X.env := by rfl) :
    PS X (.Raise (some (.Call (.Name x p) [e] [] p')) none pos) (sD c L G G' (raiF n [fl] false fs)) :=
  ps_imp (ps_raise hc tk (pmk_oex T iC tI F1 hr hb .nil passL hgx hm ha hdb he rfl)) fun E σ H ⟨S0, H0, S, r, ok, q⟩ => st_seq hg ok q fun ds vs S1 H1 w1 o1 m1 p1 => by
    obtain ⟨hl, p1⟩ := p1.ite
    match ds, vs, m1, hl with
    | [d1], [v1], .cons hv .nil, _ =>
      refine ⟨by show 1 ≤ 1000; decide, fun a na => ⟨a, v1, rfl, T, hno, upd_same, fun d hd hne => ⟨rfl, d, [(fl, v1)], upd_same, by rw [upd_ne hne, upd_same], by rw [upd_ne hne] at hd; exact hd, ?_⟩⟩⟩
      rw [upd_ne hne] at hd
      rw [heap_x1 (C := C) (o4 := .lst []) na hne]
      exact p1 C d σ (upd S1 d (.xd [(fl, v1)])) _ [(fl, v1)] hcn (o1.fwd.trans (Fwd.both o1.ex hd)) (fun g hgg => by rw [hg g hgg]; exact o1.go (Fwd.both o1.ex hd)) upd_same rfl (.cons (hv.mono (Ex.new (o1.ex.nn hd))) .nil)
def unsetS (i : Nat) : SR → SR
  | .nx r => .nx (r.set i none)
  | .bk r => .bk (r.set i none)
  | .ct r => .ct (r.set i none)
  | .er _ _ _ _ => .bad
  | o => o
def tryF (isM : Str → Option Bool) (i : Nat) (Fb Fs : Rho → SR) : Rho → SR := fun r => match Fb r with
  | .er r' n ns vs => match isM n with
    | some true => unsetS i (Fs (r'.set i (some (.obj n ns vs))))
    | some false => .er r' n ns vs
    | none => .bad
  | o => o
theorem EnvOk.unset {S0 H0 S H : Hp} {σ : St} {r : Rho} (e : EnvOk c S0 H0 G S H σ r) (i : Nat) : EnvOk c S0 H0 (G.set i .v) S H (σ.set i none) (r.set i none) := by
  refine ⟨e.fwd, by simp [e.len], fun j d h => ?_, fun j k d d' p hj hk kj kk sj sk => ?_, let ⟨A, hA⟩ := e.sto; ⟨A, hA.sub (fun a ha => (hA.out a ha).1) (fun _ _ => rfl) Ex.refl (fun j d p hj kj sj => ?_) fun j d kj hj => ?_⟩⟩
  · rcases set_some h with ⟨_, z, _⟩ | ⟨ne, h⟩
    · cases z
    · obtain ⟨v, h1, h2⟩ := e.slot j d h
      exact ⟨v, by rw [List.getElem?_set_ne ne]; exact h1, by rw [kd_set_ne ne]; exact h2⟩
  · rcases set_some hj with ⟨_, z, _⟩ | ⟨nj, hj⟩
    · cases z
    · rcases set_some hk with ⟨_, z, _⟩ | ⟨nk, hk⟩
      · cases z
      · rw [kd_set_ne nj] at kj
        rw [kd_set_ne nk] at kk
        rw [List.getElem?_set_ne nj] at sj
        rw [List.getElem?_set_ne nk] at sk
        exact e.sep j k d d' p hj hk kj kk sj sk
  · rcases set_some hj with ⟨_, z, _⟩ | ⟨nj, hj⟩
    · cases z
    · rw [kd_set_ne nj] at kj
      rw [List.getElem?_set_ne nj] at sj
      exact hA.own j d p hj kj sj
  · rcases set_some hj with ⟨_, z, _⟩ | ⟨nj, hj⟩
    · cases z
    · rw [kd_set_ne nj, List.getElem?_set_ne nj]
      exact ⟨rfl, hj, rfl⟩
/-- the slot of a caught exception -/
theorem EnvOk.setX {c' : Cf} {S0 H0 S H : Hp} {σ : St} {r : Rho} {a C dd : Addr} {n : Str} {ns : List Str} {vs : List D} {fs : List (Str × V)} (e : EnvOk c S0 H0 G S H σ r) (hK : c'.K = c.K) (hcm : c'.cm = c.cm) (i : Nat) (hi : i < G.length) (h1 : c.cm n = some C) (h2 : S dd = some (.xd fs)) (h3 : ns = fs.map (·.1)) (h4 : RpA c.K c.cm S (fs.map (·.2)) vs) :
    EnvOk c' S0 H0 (G.set i (.x a C dd)) S H (σ.set i (some (.ref a))) (r.set i (some (.obj n ns vs))) := by
  have sl : ∀ k v d, SlotOk c H0 S H k v d → SlotOk c' H0 S H k v d := fun k v d h => by
    cases k with
    | v => unfold SlotOk at h ⊢; rw [hK, hcm]; exact h
    | o => unfold SlotOk at h ⊢; rw [hK, hcm]; exact h
    | b => unfold SlotOk at h ⊢; rw [hK, hcm]; exact h
    | s P => exact h
    | w => exact h
    | x a C dd => unfold SlotOk at h ⊢; rw [hK, hcm]; exact h
    | i a => unfold SlotOk at h ⊢; rw [hK, hcm]; exact h
  have sto' : ∃ A, StoOk c'.K c'.cm H0 (G.set i (.x a C dd)) S H (σ.set i (some (.ref a))) (r.set i (some (.obj n ns vs))) A := by
    obtain ⟨A, hA⟩ := e.sto
    rw [hK, hcm]
    refine ⟨A, hA.sub (fun a ha => (hA.out a ha).1) (fun _ _ => rfl) Ex.refl (fun j d p hj kj sj => ?_) fun j d kj hj => ?_⟩
    · have nj : i ≠ j := fun z => by subst z; rw [kd_set_o hi] at kj; cases kj
      rw [List.getElem?_set_ne nj] at hj sj
      rw [kd_set_ne nj] at kj
      exact hA.own j d p hj kj sj
    · have nj : i ≠ j := fun z => by subst z; rw [kd_set_o hi] at kj; rcases kj with ⟨_, kj⟩ | kj <;> cases kj
      rw [List.getElem?_set_ne nj] at hj
      rw [kd_set_ne nj, List.getElem?_set_ne nj]
      exact ⟨rfl, hj, rfl⟩
  refine ⟨e.fwd, by simp [e.len], fun j d h => ?_, fun j k d d' p hj hk kj kk sj sk => ?_, sto'⟩
  · rcases set_some h with ⟨rfl, z, hl⟩ | ⟨ne, h⟩
    · cases z
      refine ⟨.ref a, by rw [List.getElem?_set_self (by rw [e.len]; exact hl)], ?_⟩
      rw [kd_set_o hi]
      exact ⟨rfl, n, ns, vs, fs, rfl, by rw [hcm]; exact h1, h2, h3, by rw [hK, hcm]; exact h4⟩
    · obtain ⟨v, q1, q2⟩ := e.slot j d h
      exact ⟨v, by rw [List.getElem?_set_ne ne]; exact q1, by rw [kd_set_ne ne]; exact sl _ _ _ q2⟩
  · have nj : i ≠ j := fun z => by subst z; rw [kd_set_o hi] at kj; cases kj
    have nk : i ≠ k := fun z => by subst z; rw [kd_set_o hi] at kk; cases kk
    rw [List.getElem?_set_ne nj] at hj sj
    rw [List.getElem?_set_ne nk] at hk sk
    rw [kd_set_ne nj] at kj
    rw [kd_set_ne nk] at kk
    exact e.sep j k d d' p hj hk kj kk sj sk
/-- the kinds told ahead; what they are is the same whatever the wishes -/
theorem EnvOk.cf {c' : Cf} {S0 H0 S H : Hp} {σ : St} {r : Rho} (e : EnvOk c S0 H0 G S H σ r) (hK : c'.K = c.K) (hcm : c'.cm = c.cm) : EnvOk c' S0 H0 G S H σ r := by
  refine ⟨e.fwd, e.len, fun j d h => ?_, e.sep, by rw [hK, hcm]; exact e.sto⟩
  obtain ⟨v, q1, q2⟩ := e.slot j d h
  refine ⟨v, q1, ?_⟩
  cases kj : kd G j with
  | v => rw [kj] at q2; unfold SlotOk at q2 ⊢; rw [hK, hcm]; exact q2
  | o => rw [kj] at q2; unfold SlotOk at q2 ⊢; rw [hK, hcm]; exact q2
  | b => rw [kj] at q2; unfold SlotOk at q2 ⊢; rw [hK, hcm]; exact q2
  | s P => rw [kj] at q2; exact q2
  | w => rw [kj] at q2; exact q2
  | x a C dd => rw [kj] at q2; unfold SlotOk at q2 ⊢; rw [hK, hcm]; exact q2
  | i a => rw [kj] at q2; unfold SlotOk at q2 ⊢; rw [hK, hcm]; exact q2
abbrev Cf.try (c : Cf) (W : WX) (G : List Ow) : Cf := ⟨c.K, c.cm, W, some G, c.rm⟩
theorem ds_try {nm xn : Str} {cv : Value} {i : Nat} {body suite : List Stmt} {b0 : Stmt} {np p1 : Pos} {isM : Str → Option Bool} {Fb Fs : Rho → SR} {Gs : List Ow} (hge : Gok c G) (hs : X.stack = X.env :: X.outer) (hf : X.env.frame = some X.env.locals) (hN : X.N.Nodup) (hi : X.N[i]? = some nm) (hln : X.env.kindOf nm = some .local) (hc : Names X xn cv) (tk : Takes X c.W)
    (hG : i < G.length) (hM : ∀ n C b, c.cm n = some C → isM n = some b → PySem.W.exmOne X.K (.ref C) cv = some b)
    (hb : ∀ (W : WX) (pn : List (Addr × Obj)) (xe : Value → Shared → Prop), Takes (X.tr pn xe) W → PassesOwn (model X.prog X.w) X.A X.env xe → PSs (X.tr pn xe) body (sD (c.try W G) L G G' Fb))
    (hsu : ∀ (a C dd : Addr) (oe : Obj) (pn : List (Addr × Obj)), (∃ n, c.cm n = some C ∧ isM n = some true) → Zc (.ref C) (some dd) oe → (∃ vs, oe.data = .fields vs) → PSs (X.suite a ((a, oe) :: pn)) (b0 :: suite) (sD c.calm (L.set i (.x a C dd)) (G.set i (.x a C dd)) (Gs.set i (.x a C dd)) Fs))
    (hGs : Gs.set i .v = G') (hL : L.set i .v = L) :
    PS X (.Try body [.ExceptHandler (some (.Name xn np)) (some nm) (b0 :: suite) p1] [] [] pos) (sD c L G G' (tryF isM i Fb Fs)) := by
  refine ps_imp (ps_try_as (tb := fun W => sD (c.try W G) L G G' Fb) (ts := fun a cls d => fun E σ H => ∃ C dd, cls = .ref C ∧ d = some dd ∧ (∃ n, c.cm n = some C ∧ isM n = some true) ∧ sD c.calm (L.set i (.x a C dd)) (G.set i (.x a C dd)) (Gs.set i (.x a C dd)) Fs E σ H) hs hf hN hi hln hc tk hb ?_) ?_
  · intro a oe cls d pn hz hff
    refine ⟨fun pins s σ H E I ⟨C, dd, hC, hd, hin, q⟩ => ?_⟩
    subst hC hd
    exact (hsu a C dd oe pn hin hz hff).run pins s σ H E I q
  · rintro E σ H ⟨S0, H0, S, r, ok, p⟩
    refine ⟨S0, H0, S, r, ok.cf rfl rfl, ?_⟩
    unfold tryF at p
    cases hF : Fb r with
    | nx r' => rw [hF] at p; exact fun σ' S' H' e => p σ' S' H' (e.cf rfl rfl)
    | rt d => rw [hF] at p; exact p
    | bk r' => rw [hF] at p; exact fun σ' S' H' e => p σ' S' H' (e.cf rfl rfl)
    | ct r' => rw [hF] at p; exact fun σ' S' H' e => p σ' S' H' (e.cf rfl rfl)
    | bad => rw [hF] at p; exact p.elim
    | er r' n ns vs =>
      rw [hF] at p
      intro C dd σ' S' H' fs h1 fw h2 h3 h4 h5
      have e1 : EnvOk (c.try _ G) S0 H0 G S' H' σ' r' := h2 G rfl
      dsimp only at p
      cases hI : isM n with
      | none => rw [hI] at p; exact p.elim
      | some b =>
        rw [hI] at p
        refine ⟨b, hM n C b h1 hI, fun hb1 a ha => ?_, fun hb0 => ?_⟩
        · subst hb1
          refine ⟨C, dd, rfl, rfl, ⟨n, h1, hI⟩, S0, H0, S', _, e1.setX (c' := c.calm) (a := a) rfl rfl i hG h1 h3 h4 h5, ?_⟩
          have p : PostS c S0 H0 L G' (unsetS i (Fs (r'.set i (some (.obj n ns vs))))) E := p
          cases hS : Fs (r'.set i (some (.obj n ns vs))) with
          | nx r2 =>
            rw [hS] at p
            intro σ2 S2 H2 e2
            have := (EnvOk.cf (c' := c) e2 rfl rfl).unset i
            rw [List.set_set, hGs] at this
            exact p _ S2 H2 this
          | rt d => rw [hS] at p; exact p
          | bk r2 =>
            rw [hS] at p
            intro σ2 S2 H2 e2
            have := (EnvOk.cf (c' := c) e2 rfl rfl).unset i
            rw [List.set_set, hL] at this
            exact p _ S2 H2 this
          | ct r2 =>
            rw [hS] at p
            intro σ2 S2 H2 e2
            have := (EnvOk.cf (c' := c) e2 rfl rfl).unset i
            rw [List.set_set, hL] at this
            exact p _ S2 H2 this
          | er _ _ _ _ => rw [hS] at p; exact p.elim
          | bad => rw [hS] at p; exact p.elim
        · subst hb0
          exact p C dd σ' S' H' fs h1 fw (fun g hg => by rw [hge g hg]; exact EnvOk.cf (c' := c) e1 rfl rfl) h3 h4 h5
def lookF (ns : List Str) (vs : List D) (f : Str) : Option D := (ns.zip vs).lookup f
def dXf (i : Nat) (f : Str) : Rho → Res D := fun r => match r[i]? with
  | some (some (.obj _ ns vs)) => match lookF ns vs f with
    | some d => .ok d
    | none => .bad
  | _ => .bad
theorem look_rp {K : PySem.W.Frag} {cm : CM} {S : Hp} {f : Str} {d : D} : ∀ {fs : List (Str × V)} {vs : List D}, RpA K cm S (fs.map (·.2)) vs → lookF (fs.map (·.1)) vs f = some d → ∃ v, fs.lookup f = some v ∧ Rp K cm S v d
  | [], vs, h, q => by cases h; cases q
  | (g, u) :: fs, _, h, q => by
    cases h with | @cons _ _ d' ds hu hr =>
    unfold lookF at q
    rw [List.map_cons, List.zip_cons_cons, List.lookup_cons] at q
    rw [List.lookup_cons]
    by_cases hfg : (f == g) = true
    · rw [hfg] at q ⊢; cases q; exact ⟨u, rfl, hu⟩
    · have : (f == g) = false := by simpa using hfg
      rw [this] at q ⊢
      exact look_rp hr q
theorem de_xf {a C dd : Addr} {oe : Obj} {pn : List (Addr × Obj)} {i : Nat} {nm f : Str} {pn' : Pos} (T : XfC X.K C) (hno : PySem.W.findIn X.K (.ref C) f = some none) (k : kd G i = .x a C dd)
    (hz : Zc (.ref C) (some dd) oe) (hf : ∃ vs, oe.data = .fields vs) (he : PE (X.suite a ((a, oe) :: pn)) (.Name nm pn') (tVar i)) (hb : attributeBase (.Name nm pn') f X.env (eval (.Name nm pn') X.env) = eval (.Name nm pn') X.env := by rfl) :
    PE (X.suite a ((a, oe) :: pn)) (.Attribute (.Name nm pn') f pos) (tV c G (dXf i f)) := pe_imp (pe_xf T hno hz hf he hb) fun σ H Q ⟨S0, H0, S, r, ok, p⟩ => by
  unfold dXf at p
  split at p
  · rename_i n ns vs hr
    obtain ⟨v, h1, h2⟩ := ok.slot i _ hr
    rw [k] at h2
    obtain ⟨rfl, n', ns', ds', fs, z1, z2, z3, z4, z5⟩ := h2
    cases z1
    split at p
    · rename_i d hd
      rw [z4] at hd
      obtain ⟨u, q1, q2⟩ := look_rp z5 hd
      exact ⟨.ref a, h1, rfl, rfl, dd, fs, u, rfl, ok.ex _ _ z3, q1, p.here ok.ex q2⟩
    · exact p.elim
  · exact p.elim
/-- isinstance(e, c), e the exception that the suite holds -/
def rIsX (K : PySem.W.Frag) (C a dd : Addr) : List V → Hp → VK → Prop := fun xs H Q => ∃ (c : V) (cv : Value) (b : Bool) (fs : List (Str × V)), xs = [.ref a, c] ∧ (∀ u, RelV c u → u = cv) ∧ H dd = some (.xd fs) ∧ PySem.W.kitOne K (.ref C) cv = some b ∧ Q (.bl b) H
theorem call_isX {a C dd : Addr} {oe : Obj} {pn : List (Addr × Obj)} (T : ExcC X.K C) (hz : Zc (.ref C) (some dd) oe) (hf : ∃ vs, oe.data = .fields vs) : CallR (X.suite a ((a, oe) :: pn)) (.builtin "isinstance") (rIsX X.K C a dd) := by
  intro pins s σ H xs us Q I r h
  obtain ⟨cc, cv, b, fs, rfl, hcv, hdd, hk, q⟩ := h
  match us, r with
  | [u1, u2], .cons rx (.cons rt .nil) =>
    cases rx
    have ec := hcv _ rt
    subst ec
    have hpin := (I.pin (a, oe) (List.mem_append_left _ List.mem_cons_self)).1
    obtain ⟨vs, hv⟩ := hf
    have hx : ObjOk X.prog X.w H s.heap dd (.xd fs) := I.hok dd _ hdd
    obtain ⟨mA, hns, _⟩ := hx
    obtain ⟨od, ho, _⟩ := lookIn_ns hns
    have J : PySem.W.InstAt s.heap a oe C (some od) := ⟨hpin, hz.1, by unfold PySem.W.notCls; rw [hv], by rw [hz.2]; exact ho⟩
    have hcl : (PySem.W.clsIn X.K C).isSome = true := by
      have h1 := T.hd
      unfold PySem.W.hasDictIn at h1
      cases hc : PySem.W.clsIn X.K C with
      | none => rw [hc] at h1; cases h1
      | some _ => rfl
    exact PySem.W.kia_one (PySem.W.kitx_exc hcl T.hg T.hk T.hs T.ha T.hn T.ht T.hm) I.kIn J hk (fun z => nomatch z) fun tk => ⟨.bl b, H, I.kept (t' := tk) fun _ _ z => z, rfl, q⟩
/-- isM: which of the classes that are caught are of this class -/
def dIsX (isM : Str → Option Bool) (i : Nat) : Rho → Res D := fun r => match r[i]? with
  | some (some (.obj n _ _)) => match isM n with
    | some b => .ok (.bl b)
    | none => .bad
  | _ => .bad
theorem de_isX {a C dd : Addr} {oe : Obj} {pn : List (Addr × Obj)} {i : Nat} {nm xc : Str} {pn' pc : Pos} {isM : Str → Option Bool} {v : V} {cv : Value} (k : kd G i = .x a C dd) (T : ExcC X.K C) (hz : Zc (.ref C) (some dd) oe) (hf : ∃ vs, oe.data = .fields vs)
    (hcv : ∀ u, RelV v u → u = cv) (hM : ∀ n b, c.cm n = some C → isM n = some b → PySem.W.kitOne X.K (.ref C) cv = some b)
    (hm : X.mg "isinstance" = none) (hg : Gl X "isinstance") (hv : PE (X.suite a ((a, oe) :: pn)) (.Name nm pn') (tVar i)) (hT : PE (X.suite a ((a, oe) :: pn)) (.Name xc pc) (tC v))
    (hs1 : starEach [.Name nm pn', .Name xc pc] X.env = (false, eval (.Name nm pn') X.env) :: starEach [.Name xc pc] X.env := by rfl) (hs2 : starEach [.Name xc pc] X.env = (false, eval (.Name xc pc) X.env) :: starEach [] X.env := by rfl) (hpl : (backTo pos (starEach [.Name xc pc] X.env)).any (·.1) = false := by rfl) :
    PE (X.suite a ((a, oe) :: pn)) (.Call (.Name "isinstance" p) [.Name nm pn', .Name xc pc] [] pos) (tV c G (dIsX isM i)) := by
  refine pe_imp (pe_callB (call_isX T hz hf) hg hm (by decide +kernel) (pa_cons hv (pa_cons hT pa_nil hs2) hs1) (he := hs1) (hpl := hpl)) fun σ H Q ⟨S0, H0, S, r, ok, p⟩ => ?_
  unfold dIsX at p
  split at p
  · rename_i n ns vs hr
    obtain ⟨v', h1, h2⟩ := ok.slot i _ hr
    rw [k] at h2
    obtain ⟨rfl, n', ns', ds', fs, z1, z2, z3, z4, z5⟩ := h2
    cases z1
    split at p
    · rename_i b hb
      exact ⟨.ref a, h1, v, cv, b, fs, rfl, hcv, ok.ex _ _ z3, hM n b z2 hb, p.here ok.ex (.bl _)⟩
    · exact p.elim
  · exact p.elim
end
end Dx
end S_DxG
section S_DxT
set_option Elab.async false
set_option linter.all false
set_option maxRecDepth 100000
set_option maxHeartbeats 2000000
namespace Dx
open PySem L2
theorem gok0 {K : PySem.W.Frag} {cm : CM} {rm : Bool} {E : XK} {G : List Ow} : Gok (cfE K cm rm E) G := fun _ h => nomatch h
theorem gokC {c : Cf} {G : List Ow} : Gok c.calm G := fun _ h => nomatch h
theorem gokT {c : Cf} {W : WX} {G : List Ow} : Gok (c.try W G) G := fun _ h => (Option.some.inj h).symm
theorem hu65 {k : Nat} {A : Around} (hr : Room k A) : A.units + 65 < cLine := by have := hr.un; omega
theorem ints_rp {K : PySem.W.Frag} {cm : CM} {S : Hp} : ∀ ns : List Int, RpA K cm S (ns.map V.int) (ns.map D.int)
  | [] => .nil
  | n :: ns => .cons (.int n) (ints_rp ns)
theorem law_sp {K : PySem.W.Frag} {cm : CM} {F : List D → Res D} {ns : List Int} {H : Hp} {a : Addr} {Q : VK} {E : XK} (h : F [.fz (ns.map D.int)] = .ok (.bl true)) (hS : SqL K H a (ns.map V.int)) (k : ∀ H', Q (.bl true) H') : spD K cm [false] false F [.ref a] H Q E :=
  ⟨H, [.fz (ns.map D.int)], Ex.refl, ⟨.fz hS (ints_rp ns), trivial⟩, by
    rw [h]
    intro S' H' w b hb
    cases hb
    exact k H'⟩
theorem cx_never {P : Program} {w : World} {outer : List Env} {H : Hp} {s s' : Shared} {e : Value} (h : L2.CX P w outer H s (fun _ _ _ => False) e s') : False := by
  obtain ⟨_, _, _, _, _, _, _, _, _, _, _, _, hf⟩ := h
  exact hf
section
variable {X : Cx} {c : Cf} {L G G' : List Ow} {f f1 f2 : Rho → Res D} {o e : Expr} {pos apos : Pos}
def asS : D → Res Str
  | .str s => .ok s
  | _ => .bad
def MtS (c : Cf) (R : Md V D) (r : V → List V → Hp → VK → Prop) (g : D → D → Res D) : Prop := ∀ (σ : St) (S H : Hp) (x y : V) (d e : D) (Q : VK), Ex S H → RpB c.K c.cm S H x d → RpB c.K c.cm S H y e →
  PostG c σ S H (g d e) (fun a S' H' => ∀ b, R H S' H' b a → Q b H') → r x [y] H Q
def dStr (g : D → D → Res D) (f1 f2 : Rho → Res D) : Rho → Res D := fun r => (f1 r).bind fun x => (asS x).bind fun _ => (f2 r).bind fun y => g x y
theorem de_m1 {R : Md V D} [Anti R] {id : String} {name : Str} {r : V → List V → Hp → VK → Prop} {g : D → D → Res D} (slot : Slot "str" name id) (ty : typeOf (.builtin id) = pure (.type "method_descriptor")) (rule : MtR X id r) (hs : MtS c R r g) (ho : PE X o (tR c G f1)) (he : PE X e (tR c G f2))
    (hst : starEach [e] X.env = [(false, eval e X.env)] := by rfl) (hbase : attributeBase o name X.env (eval o X.env) = eval o X.env := by rfl) (hline : (apos.endLine == pos.line) = true := by rfl) :
    PE X (.Call (.Attribute o name apos) [e] [] pos) (rd c G (dStr g f1 f2) R) := pe_imp (pe_m1 slot ty rule ho he hst hbase hline) fun σ H Q ⟨S0, H0, S, r, ok, p⟩ => rd_seq ok p fun x v S1 H1 w1 o1 m1 p1 => by
  cases x with
  | str z =>
    have hv := RpB.str m1
    exact ⟨⟨z, hv⟩, rd_seq o1 (show PostG c σ S1 H1 ((f2 r).bind fun y => g (.str z) y) _ from p1) fun y u S2 H2 w2 o2 m2 p2 => hs σ S2 H2 v u (.str z) y Q o2.ex (RpB.mono m1 w2.s w2.h) m2 (p2.anti (w1.h.trans w2.h))⟩
  | _ => exact p1.elim
def strsD (zs : List Str) : List D := zs.map .str
theorem strs_rp {K : PySem.W.Frag} {cm : CM} {S : Hp} : ∀ zs : List Str, RpA K cm S (zs.map V.str) (strsD zs)
  | [] => .nil
  | z :: zs => .cons (.str z) (strs_rp zs)
noncomputable def splitD : D → D → Res D
  | .str a, .str b => guard ((b.length == 0) = false ∧ a.length + 2 ≤ sizeLine) (.ok (.lst (strsD (Txt.split a b))))
  | _, _ => .bad
theorem ms_split : MtS c (mO c) (fun x xs H Q => ∃ a b, x = .str a ∧ xs = [.str b] ∧ (b.length == 0) = false ∧ a.length + 2 ≤ sizeLine ∧ rNewStrs (Txt.split a b) H Q) splitD := by
  intro σ S H x y d e Q ex hx hy p
  unfold splitD at p
  split at p
  · obtain ⟨hl, p⟩ := p.gd
    cases hx.str; cases hy.str
    exact ⟨_, _, rfl, rfl, hl.1, hl.2, fun q hq => p.kept ex hq (.lst (strs_rp _))⟩
  · exact p.elim
noncomputable def partD : D → D → Res D
  | .str a, .str b => guard ((b.length == 0) = false ∧ a.length ≤ sizeLine) (.ok (.tup [.str (Txt.partition a b).1, .str (Txt.partition a b).2.1, .str (Txt.partition a b).2.2]))
  | _, _ => .bad
theorem ms_part : MtS c (mV c) (fun x xs H Q => ∃ a b, x = .str a ∧ xs = [.str b] ∧ (b.length == 0) = false ∧ a.length ≤ sizeLine ∧
    ∀ p, H p = none → Q (.ref p) (upd H p (.tup [.str (Txt.partition a b).1, .str (Txt.partition a b).2.1, .str (Txt.partition a b).2.2]))) partD := by
  intro σ S H x y d e Q ex hx hy p
  unfold partD at p
  split at p
  · obtain ⟨hl, p⟩ := p.gd
    cases hx.str; cases hy.str
    exact ⟨_, _, rfl, rfl, hl.1, hl.2, fun q hq => p.laid ex hq (.tup upd_same (.cons (.str _) (.cons (.str _) (.cons (.str _) .nil))))⟩
  · exact p.elim
def startD : D → D → Res D
  | .str a, .str b => .ok (.bl (Txt.startswith a b))
  | _, _ => .bad
def endD : D → D → Res D
  | .str a, .str b => .ok (.bl (Txt.endswith a b))
  | _, _ => .bad
def findD : D → D → Res D
  | .str a, .str b => .ok (.int (Txt.find a b))
  | _, _ => .bad
theorem ms_find : MtS c (mV c) (fun x xs H Q => ∃ a b, x = .str a ∧ xs = [.str b] ∧ Q (.int (Txt.find a b)) H) findD := by
  intro σ S H x y d e Q ex hx hy p
  unfold findD at p
  split at p
  · cases hx.str; cases hy.str; exact ⟨_, _, rfl, rfl, p.here ex (.int _)⟩
  · exact p.elim
/-- the texts of a list or a tuple -/
def allStr : List D → Option (List Str)
  | [] => some []
  | .str z :: ds => (allStr ds).map (z :: ·)
  | _ :: _ => none
theorem allStr_rp {K : PySem.W.Frag} {cm : CM} {S : Hp} : ∀ {ds : List D} {vs : List V} {zs : List Str}, RpA K cm S vs ds → allStr ds = some zs → vs = zs.map V.str
  | [], _, _, h, q => by cases h; cases q; rfl
  | d :: ds, _, _, h, q => by
    cases h with | cons hd hr =>
    cases d with
    | str z =>
      rw [allStr] at q
      obtain ⟨zs, h1, rfl⟩ := Option.map_eq_some_iff.mp q
      cases hd
      rw [allStr_rp hr h1]; rfl
    | _ => cases q
noncomputable def joinZ (a : Str) : Option (List Str) → Res D
  | some zs => guard ((zs.map (·.length)).sum + zs.length * a.length ≤ 16777216) (.ok (.str (Txt.join a zs)))
  | none => .bad
noncomputable def joinD : D → D → Res D
  | .str a, d => (items d).bind fun ds => joinZ a (allStr ds)
  | _, _ => .bad
theorem ms_join (hK : c.K = X.K := by rfl) : MtS c (mV c) (fun x xs H Q => ∃ a p, ∃ ys : List Str, x = .str a ∧ xs = [.ref p] ∧ (SqL X.K H p (ys.map V.str) ∨ SqT X.K H p (ys.map V.str)) ∧
    (ys.map (·.length)).sum + ys.length * a.length ≤ 16777216 ∧ Q (.str (Txt.join a ys)) H) joinD := by
  intro σ S H x y d e Q ex hx hy p
  cases d with
  | str a =>
    cases hx.str
    have fin : ∀ ds, items e = .ok ds → ∃ zs, allStr ds = some zs ∧ (zs.map (·.length)).sum + zs.length * a.length ≤ 16777216 ∧ Q (.str (Txt.join a zs)) H := fun ds hds => by
      replace p : PostG c σ S H ((items e).bind fun ds => joinZ a (allStr ds)) (fun a S' H' => ∀ b, mV c H S' H' b a → Q b H') := p
      rw [hds] at p
      replace p : PostG c σ S H (joinZ a (allStr ds)) (fun a S' H' => ∀ b, mV c H S' H' b a → Q b H') := p
      cases hz : allStr ds with
      | none => rw [hz] at p; exact p.elim
      | some zs =>
        rw [hz] at p
        obtain ⟨hl, p⟩ := p.gd
        exact ⟨zs, rfl, hl, p.here ex (.str _)⟩
    rw [← hK]
    cases e with
    | lst ds =>
      obtain ⟨q, xs, rfl, a1, r1⟩ := hy.list ex
      obtain ⟨zs, h1, h2, h3⟩ := fin ds rfl
      have := allStr_rp r1 h1; subst this
      exact ⟨a, q, zs, rfl, rfl, .inl (.inl (.inl a1)), h2, h3⟩
    | fz ds =>
      obtain ⟨q, xs, rfl, a1, r1⟩ := hy.fz ex
      obtain ⟨zs, h1, h2, h3⟩ := fin ds rfl
      have := allStr_rp r1 h1; subst this
      exact ⟨a, q, zs, rfl, rfl, .inl a1, h2, h3⟩
    | tup ds =>
      obtain ⟨q, xs, rfl, a1, r1, s1⟩ := hy.tup ex
      obtain ⟨zs, h1, h2, h3⟩ := fin ds rfl
      have := allStr_rp r1 h1; subst this
      exact ⟨a, q, zs, rfl, rfl, .inr a1, h2, h3⟩
    | _ => exact p.elim
  | _ => exact p.elim
noncomputable def ordX : D → Res D
  | .str x => guard (x.length = 1) (.ok (.int (x.cps.getD 0 0 : Nat)))
  | _ => .bad
noncomputable def fmtD : D → Res D
  | .str y => guard (y.length ≤ sizeLine) (.ok (.str y))
  | .int i => guard (i.natAbs.log2 < 1920) (.ok (.str (toString i)))
  | _ => .bad
def dJnil : Str → Rho → Res D := fun acc _ => .ok (.str acc)
noncomputable def dJcons (f : Rho → Res D) (g : Str → Rho → Res D) : Str → Rho → Res D := fun acc r => (f r).bind fun d => (asS d).bind fun y => guard ((acc ++ y).length ≤ sizeLine) (g (acc ++ y) r)
def dJoin (g : Str → Rho → Res D) : Rho → Res D := g Str.empty
noncomputable def truB : D → Res Bool
  | .non => .ok false
  | .bl b => .ok b
  | .int i => .ok (i != 0)
  | .str y => guard (y.length ≤ sizeLine) (.ok ((y.length : Int) != 0))
  | .lst ds => .ok (!ds.isEmpty)
  | .fz ds => .ok (!ds.isEmpty)
  | .tup ds => .ok (!ds.isEmpty)
  | _ => .bad
noncomputable def dTru (f : Rho → Res D) : Rho → Res Bool := fun r => (f r).bind truB
theorem RpA.empty {K : PySem.W.Frag} {cm : CM} {S : Hp} {vs : List V} {ds : List D} (h : RpA K cm S vs ds) : (!ds.isEmpty) = !vs.isEmpty := by cases h <;> rfl
theorem dt_tru (he : PE X e (tR c G f)) (hw : ∀ whole, isTrue e X.env whole = (do let v ← whole; standAt e.pos; holding [v] (truthy v))) (hK : c.K = X.K := by rfl) : PT X e (tT c G (dTru f)) :=
  pt_imp (pt_truth he hw) fun σ H Q ⟨S0, H0, S, r, ok, p⟩ => rd_seq ok p fun d v S1 H1 w1 o1 m1 p1 => by
    rw [← hK]
    cases d with
    | non => cases RpB.non m1; exact ⟨_, rfl, p1.go o1.ex _ rfl⟩
    | bl b => cases RpB.bl m1; exact ⟨_, rfl, p1.go o1.ex _ rfl⟩
    | int i => cases RpB.int m1; exact ⟨_, rfl, p1.go o1.ex _ rfl⟩
    | str y =>
      cases RpB.str m1
      obtain ⟨hl, p1⟩ := p1.gd
      exact ⟨_, ⟨hl, rfl⟩, p1.go o1.ex _ rfl⟩
    | lst ds => obtain ⟨q, xs, rfl, a1, r1⟩ := RpB.list m1 o1.ex; exact ⟨_, .inl ⟨xs, .inl (.inl a1), r1.empty⟩, p1.go o1.ex _ rfl⟩
    | fz ds => obtain ⟨q, xs, rfl, a1, r1⟩ := RpB.fz m1 o1.ex; exact ⟨_, .inl ⟨xs, a1, r1.empty⟩, p1.go o1.ex _ rfl⟩
    | tup ds => obtain ⟨q, xs, rfl, a1, r1, s1⟩ := RpB.tup m1 o1.ex; exact ⟨_, .inr (.inl ⟨xs, a1, r1.empty⟩), p1.go o1.ex _ rfl⟩
    | _ => exact p1.elim
def augF (i : Nat) (g : D → D → Res D) (f : Rho → Res D) : Rho → SR := fun r => liftS r (dVar i r) fun x => liftS r (f r) fun y => liftS r (g x y) fun z => .nx (r.set i (some z))
end
end Dx
end S_DxT
section S_DxS
set_option Elab.async false
set_option linter.all false
set_option maxRecDepth 100000
set_option maxHeartbeats 2000000
namespace Dx
open PySem L2
/-- new own lists that stand in each other -/
def mG (c : Cf) : Md V D := fun H S' H' v d => ∃ k M A, d = .st k M ∧ A.Nodup ∧ A.length = M.length ∧ (∃ a, A[k]? = some a ∧ v = .ref a) ∧ (∀ a ∈ A, H a = none ∧ S' a = none) ∧
  ∀ (n : Nat) row, M[n]? = some row → ∃ a xs, A[n]? = some a ∧ H' a = some (.lst xs) ∧ RmA c.K c.cm A S' xs row
instance {c : Cf} : Anti (mG c) := ⟨fun e ⟨k, M, A, h1, h2, h3, h4, h5, h6⟩ => ⟨k, M, A, h1, h2, h3, h4, fun a ha => ⟨e.nn (h5 a ha).1, (h5 a ha).2⟩, h6⟩⟩
section
variable {X : Cx} {c : Cf} {L G G' : List Ow} {σ : St} {S0 H0 S H S' H' : Hp} {r : Rho}
variable {e : Expr} {pos : Pos} {f : Rho → Res D}
def isOwn : D → Bool
  | .own _ => true
  | .st _ _ => true
  | _ => false
theorem RmA.plain {A : List Addr} {xs : List V} {row : List D} (h : RmA c.K c.cm A S xs row) (hp : row.all (fun d => !isOwn d) = true) : RpA c.K c.cm S xs row := by
  obtain ⟨hl, h⟩ := h
  induction row generalizing xs with
  | nil =>
    cases xs with
    | nil => exact .nil
    | cons _ _ => cases hl
  | cons d row ih =>
    cases xs with
    | nil => cases hl
    | cons v xs =>
      rw [List.all_cons, Bool.and_eq_true] at hp
      refine .cons ?_ (ih hp.2 (by simpa using hl) fun i v d hv hd => h (i + 1) v d (by simpa using hv) (by simpa using hd))
      rcases h 0 v d rfl rfl with z | ⟨k, a, rfl, _⟩
      · exact z
      · cases hp.1
theorem RmA.atI {A : List Addr} {xs : List V} {row : List D} {j : Int} {d : D} (h : RmA c.K c.cm A S xs row) (q : L2.atI row j = some d) : ∃ v, L2.atI xs j = some v ∧ RmV c.K c.cm A S v d := by
  unfold L2.atI at q ⊢
  rw [h.1]
  cases hj : ixN row.length j with
  | none => rw [hj] at q; cases q
  | some n =>
    rw [hj] at q
    have q : row[n]? = some d := q
    have hlt : n < xs.length := by rw [h.1]; exact (List.getElem?_eq_some_iff.mp q).1
    exact ⟨xs[n], List.getElem?_eq_getElem hlt, h.2 n _ d (List.getElem?_eq_getElem hlt) q⟩
theorem RmA.set {A : List Addr} {xs : List V} {row : List D} {v : V} {d : D} (h : RmA c.K c.cm A S xs row) (hv : Rp c.K c.cm S v d) (n : Nat) : RmA c.K c.cm A S (xs.set n v) (row.set n d) := by
  refine ⟨by rw [List.length_set, List.length_set]; exact h.1, fun i u e hu he => ?_⟩
  rw [List.getElem?_set] at hu he
  split at hu
  · rename_i hni
    rw [if_pos hni] at he
    split at hu
    · cases hu
      split at he
      · cases he; exact .inl hv
      · cases he
    · cases hu
  · rename_i hni
    rw [if_neg hni] at he
    exact h.2 i u e hu he
end
end Dx
end S_DxS
section S_DxU
set_option Elab.async false
set_option linter.all false
set_option maxRecDepth 100000
set_option maxHeartbeats 2000000
namespace Dx
open PySem L2
def optL (g : D → Option D) : List D → Option (List D)
  | [] => some []
  | d :: ds => match g d, optL g ds with
    | some e, some es => some (e :: es)
    | _, _ => none
def derefD : Nat → List (List D) → D → Option D
  | _, _, .st _ _ => none
  | 0, _, .own _ => none
  | n + 1, M, .own k => match M[k]? with
    | some row => match optL (derefD n M) row with
      | some ds => some (.lst ds)
      | none => none
    | none => none
  | _, _, d => some d
section
variable {X : Cx} {c : Cf} {L G G' : List Ow} {σ : St} {S0 H0 S H S' H' : Hp} {r : Rho}
/-- all the own lists of slot i become values; the slots ws, that hold some of them, are given up -/
def pubF (n i : Nat) (ws : List Nat) : Rho → SR := fun r => match r[i]? with
  | some (some (.st k M)) => match derefD n M (.own k) with
    | some d => .nx ((wipeR r ws).set i (some d))
    | none => .bad
  | _ => .bad
end
end Dx
end S_DxU
section S_DxV
set_option Elab.async false
set_option linter.all false
set_option maxRecDepth 100000
set_option maxHeartbeats 2000000
namespace Dx
open PySem L2
/-- each item with its number -/
def numd : Nat → List D → List D
  | _, [] => []
  | n, d :: ds => .tup [.int (n : Int), d] :: numd (n + 1) ds
section
variable {X : Cx} {c : Cf} {G : List Ow} {f : Rho → Res D} {e : Expr} {pos : Pos}
def itemsF (d : D) : Res (List D) := match d with
  | .lst ds => .ok ds
  | .fz ds => .ok ds
  | _ => .bad
def enumL (d : D) : Res (List D) := (itemsF d).bind fun ds => .ok (numd 0 ds)
def enumT (d : D) : Res (List D) := (itemsT d).bind fun ds => .ok (numd 0 ds)
end
end Dx
end S_DxV
section S_DxW
set_option Elab.async false
set_option linter.all false
set_option maxRecDepth 100000
set_option maxHeartbeats 2000000
namespace Dx
open PySem L2 PyProof.Rows
end Dx
end S_DxW
section S_DxX
set_option Elab.async false
set_option linter.all false
set_option maxRecDepth 100000
set_option maxHeartbeats 2000000
namespace Dx
open PySem L2
section
variable {X : Cx} {c : Cf} {L G G' : List Ow} {f f1 f2 : Rho → Res D} {a b e : Expr} {pos : Pos} {tg : Expr}
/-- sum of a list of ints -/
def allInt : List D → Option (List Int)
  | [] => some []
  | .int i :: ds => match allInt ds with
    | some is => some (i :: is)
    | none => none
  | _ => none
def sumD : D → Res D
  | .lst ds => match allInt ds with
    | some is => .ok (.int is.sum)
    | none => .bad
  | _ => .bad
end
end Dx
end S_DxX
section S_DxY
set_option Elab.async false
set_option linter.all false
set_option maxRecDepth 100000
set_option maxHeartbeats 2000000
namespace Dx
open PySem L2
section
variable {X : Cx} {CX : CXT} {k : Nat} {f C : Addr} {fd : FuncData} {ps : List Str} {sp : Sp} {E : St → XK} {x m : Str} {p pos apos : Pos} {e o : Expr} {es : List Expr} {ta : TE} {t : TA}
def tMakeSD (C : Addr) (sp : Sp) (dvs : List V) (E : St → XK) (t : TA) : TE := fun σ H Q => t σ H fun vs H1 => ∀ x dx, H1 x = none → H1 dx = none → dx ≠ x →
  sp (.ref x :: (vs ++ dvs)) (upd (upd H1 dx (.own x)) x (.ins C dx [])) (fun v H2 => v = .non ∧ Q (.ref x) H2) (E σ)
variable {dvs : List V} {ds : List Value}
theorem run_makeSD {pins : List (Addr × Obj)} {σ : St} {H : Hp} {s : Shared} {Q : VK} {us : List Value} {vs : List V} (M : Mk X.K C f) (F : FnOk X.prog X.w X.K X.mg X.base CX k f fd ps sp) (hr : Room (k + 1) X.A) (hb : L2.Binds X.K fd ps ds) (hd : Vals dvs ds)
    (hx : PassesAt CX X σ (E σ)) (I : Inv X pins σ H s) (r : Vals vs us)
    (h : ∀ x dx, H x = none → H dx = none → dx ≠ x → sp (.ref x :: (vs ++ dvs)) (upd (upd H dx (.own x)) x (.ins C dx [])) (fun v H2 => v = .non ∧ Q (.ref x) H2) (E σ)) :
    wpAny (model X.prog X.w) X.A (call (.ref C) us) (EP X pins σ Q) X.xe s := by
  have hq := h (s.heap.objs.size + 1) s.heap.objs.size (I.hok.fresh (Nat.le_succ _)) (I.hok.fresh (Nat.le_refl _)) (Nat.ne_of_lt (Nat.lt_succ_self _))
  have I2 := Inv.made (C := C) I
  have r2 : Vals (V.ref (s.heap.objs.size + 1) :: (vs ++ dvs)) (Value.ref (s.heap.objs.size + 1) :: (us ++ ds)) := .cons rfl (r.append hd)
  have hl : (Value.ref (s.heap.objs.size + 1) :: us ++ ds).length = ps.length := by
    have e := r2.length
    rw [F.len _ _ _ _ hq] at e
    exact e.symm
  refine wpAny_call (make_map (f := f) I.kIn M.makes M.init (beq_iff_eq.mp M.fn) (codeAny_mono (F.run _ X.stack _ _ ⟨Value.ref (s.heap.objs.size + 1) :: us, []⟩ (Value.ref (s.heap.objs.size + 1) :: (us ++ ds)) _ _ (E σ) (hr.make C us [])
    (I2.env0.make C us []) (hb _ (Value.ref (s.heap.objs.size + 1) :: us) I2.kIn hl) r2 hq) fun r s' hq' => ?_))
  cases r with
  | error e => exact hx pins _ _ e s' I2 hq'
  | ok fl =>
    cases fl with
    | ret u =>
      obtain ⟨v, H', I3, rv, ev, q3⟩ := I2.after hq'
      subst ev
      exact ⟨rv, ⟨V.ref (s.heap.objs.size + 1), H', I3, rfl, q3⟩⟩
    | next => exact False.elim hq'
    | brk => exact False.elim hq'
    | cont => exact False.elim hq'
theorem pe_makeSD (M : Mk X.K C f) (F : FnOk X.prog X.w X.K X.mg X.base CX k f fd ps sp) (hr : Room (k + 1) X.A) (hg : Gl X x) (hm : X.mg x = some (.ref C)) (hb : L2.Binds X.K fd ps ds) (hd : Vals dvs ds) (hx : ∀ σ, PassesAt CX X σ (E σ))
    (ha : PA X (e :: es) t) (hdb : (x == ("__debug__" : Str)) = false := by decide) (he : starEach (e :: es) X.env = (false, eval e X.env) :: starEach es X.env := by rfl) (hpl : (backTo pos (starEach es X.env)).any (·.1) = false := by rfl) :
    PE X (.Call (.Name x p) (e :: es) [] pos) (tMakeSD C sp dvs E t) := by
  refine ⟨fun pins s σ H Q I h => ?_⟩
  refine wpAny_Call_Name_kw (ld_glob I hg hm ?_ hdb)
  refine PySem.W.callWith_K (h₀ := X.base) I.ok.mod.kin M.kp (thn (ha.run pos pins s σ H _ I h) fun us s1 ⟨vs, H1, I1, r, q⟩ => ⟨I1.kIn, ?_⟩) he hpl
  exact run_makeSD M F hr hb hd (hx σ) I1 r q
end
section
variable {X : Cx} {c : Cf} {L G G' : List Ow} {f f1 : Rho → Res D} {e o : Expr} {es : List Expr} {pos apos p : Pos} {fs : Rho → Res (List D)}
/-- of an object of the class n, its field fl -/
def fldD (n fl : Str) : D → Res D
  | .obj c ns vs => if c = n then (match lookF ns vs fl with
    | some d => .ok d
    | none => .bad) else .bad
  | _ => .bad
theorem de_fld {n fl : Str} {C : Addr} (hcn : c.cm n = some C) (cl : Cls X.K C) (na : NoAttr X.K C fl) (he : PE X e (tR c G f)) (hb : attributeBase e fl X.env (eval e X.env) = eval e X.env := by rfl) :
    PE X (.Attribute e fl pos) (tV c G (dUn (fldD n fl) f)) := pe_imp (pe_fld he hb) fun σ H Q ⟨S0, H0, S, r, ok, p⟩ => rd_seq ok p fun d v S1 H1 w1 o1 m1 p1 => by
  cases d with
  | obj c' ns vs =>
    unfold fldD at p1
    dsimp only at p1
    split at p1
    · rename_i hc
      subst hc
      split at p1
      · rename_i d' hd
        obtain ⟨q, C', dx, fs, rfl, h1, h2, rfl, h4⟩ := RpB.obj m1 o1.ex
        rw [hcn] at h1; cases h1
        obtain ⟨v', hv, hr⟩ := look_rp h4 hd
        exact ⟨q, C, dx, fs, v', rfl, h2, cl, na, hv, p1.go o1.ex _ hr⟩
      · exact p1.elim
    · exact p1.elim
  | _ => exact p1.elim
/-- the own object in slot i gets a field -/
def putN (fl : Str) (d : D) : List Str → List D → List Str × List D
  | n :: ns, v :: vs => if n = fl then (n :: ns, d :: vs) else let z := putN fl d ns vs; (n :: z.1, v :: z.2)
  | ns, vs => (ns ++ [fl], vs ++ [d])
theorem putN_rp {K : PySem.W.Frag} {cm : CM} {S : Hp} {fl : Str} {d : D} {v : V} (hv : Rp K cm S v d) : ∀ {fs : List (Str × V)} {vs : List D}, RpA K cm S (fs.map (·.2)) vs →
    (putN fl d (fs.map (·.1)) vs).1 = (putF fl v fs).map (·.1) ∧ RpA K cm S ((putF fl v fs).map (·.2)) (putN fl d (fs.map (·.1)) vs).2
  | [], vs, h => by
    cases h
    refine ⟨rfl, ?_⟩
    show RpA K cm S [v] [d]
    exact .one hv
  | (n, u) :: fs, _, h => by
    cases h with | @cons _ _ d' ds' h1 h2 =>
    obtain ⟨z1, z2⟩ := putN_rp hv h2
    by_cases hn : n = fl
    · subst hn
      have e1 : putF n v ((n, u) :: fs) = (n, v) :: fs := by unfold putF; simp
      have e2 : putN n d (((n, u) :: fs).map (·.1)) (d' :: ds') = (n :: fs.map (·.1), d :: ds') := by
        show putN n d (n :: fs.map (·.1)) (d' :: ds') = _
        unfold putN; simp
      rw [e1, e2]
      exact ⟨rfl, .cons hv h2⟩
    · have e1 : putF fl v ((n, u) :: fs) = (n, u) :: putF fl v fs := by
        conv => lhs; unfold putF
        simp [hn, Ne.symm hn]
      have e2 : putN fl d (((n, u) :: fs).map (·.1)) (d' :: ds') = (n :: (putN fl d (fs.map (·.1)) ds').1, d' :: (putN fl d (fs.map (·.1)) ds').2) := by
        show putN fl d (n :: fs.map (·.1)) (d' :: ds') = _
        conv => lhs; unfold putN
        simp [hn]
      rw [e1, e2]
      exact ⟨by simp [z1], .cons h1 z2⟩
def fstF (i : Nat) (n fl : Str) (f : Rho → Res D) : Rho → SR := fun r => liftS r (f r) fun d => match r[i]? with
  | some (some (.obj c ns vs)) => if c = n ∧ ns.length < 1000 then .nx (r.set i (some (.obj c (putN fl d ns vs).1 (putN fl d ns vs).2))) else .bad
  | _ => .bad
theorem ds_fst (i : Nat) {n fl x : Str} {C : Addr} {pn pos' : Pos} (hg : Gok c G) (hcn : c.cm n = some C) (cl : Cls X.K C) (na : NoAttr X.K C fl) (k : isO (kd G i)) (ho : PE X (.Name x pn) (tVar i)) (he : PE X e (tV c G f))
    (hs : swapsWith e (some (.Attribute (.Name x pn) fl pos')) pos.line X.env = pure false := by rfl) : PS X (.Assign [.Attribute (.Name x pn) fl pos'] e pos) (sD c L G G (fstF i n fl f)) :=
  ps_imp (ps_fld ho he hs) fun E σ H ⟨S0, H0, S, r, ok, p⟩ => st_seq hg ok p fun d v S1 H1 w1 o1 m1 p1 => by
    split at p1
    · rename_i c' ns vs hr
      split at p1
      · rename_i hc
        obtain ⟨rfl, hl⟩ := hc
        obtain ⟨q, ho', s1, s2, s3, s4, s5⟩ := o1.ownI k hr
        cases s5 with | @obj C' dx _ fs _ _ h1 h2 h3 =>
        rw [hcn] at h1; cases h1
        subst h2
        obtain ⟨z1, z2⟩ := putN_rp (fl := fl) m1 h3
        refine ⟨.ref q, s1, q, C, dx, fs, rfl, s2, cl, na, by simpa using hl, p1 σ S1 _ ?_⟩
        exact o1.mutI k hr s1 (.obj hcn z1 z2)
      · exact p1.elim
    · exact p1.elim
variable {k : Nat} {fa : Addr} {fd : FuncData} {ps : List Str} {ms : List Bool} {rm : Bool} {F : List D → Res D}
def isObj (n m : Str) : D → Res Unit
  | .obj c ns _ => if c = n ∧ m ∉ ns then .ok () else .bad
  | _ => .bad
def dMeth (n m : Str) (F : List D → Res D) (f1 : Rho → Res D) (fs : Rho → Res (List D)) : Rho → Res D := fun r => (f1 r).bind fun x => (isObj n m x).bind fun _ => (fs r).bind fun ds => F (x :: ds)
/-- what an __init__ promises: from its arguments' data to the new object's data -/
def spI (K : PySem.W.Frag) (cm : CM) (C : Addr) (ms : List Bool) (F : List D → Res D) : Sp := fun vs H Q E => ∃ x dx H1 S us ds, vs = .ref x :: us ∧ H1 x = none ∧ H1 dx = none ∧ dx ≠ x ∧ H = upd (upd H1 dx (.own x)) x (.ins C dx []) ∧ Ex S H1 ∧
  RpM ⟨K, cm, fun _ _ _ _ => False, none, true⟩ S H1 ms us ds ∧
  PostG ⟨K, cm, fun cls d _ H => E cls d H, none, true⟩ [] S H1 (F ds) fun a S' H' => (∃ ho, S' x = none ∧ H' x = some ho ∧ RpO K cm S' ho a) → Q .non H'
theorem make_rd {E : XK} {σ : St} {S H : Hp} {vs : List V} {ds : List D} {Q : VK} {C x dx : Addr} (hE : ∀ cls d H, c.W cls d σ H → E cls d H) (ex : Ex S H) (m : RpM c S H ms vs ds) (hx : H x = none) (hdx : H dx = none) (hne : dx ≠ x)
    (q : PostG c σ S H (F ds) fun a S' H' => ∀ b, mO c H S' H' b a → Q b H') : spI c.K c.cm C ms F (.ref x :: vs) (upd (upd H dx (.own x)) x (.ins C dx [])) (fun v H2 => v = .non ∧ Q (.ref x) H2) E := by
  refine ⟨x, dx, H, S, vs, ds, rfl, hx, hdx, hne, rfl, ex, RpM.cf (c := c) (c' := ⟨c.K, c.cm, fun _ _ _ _ => False, none, true⟩) rfl rfl m, ?_⟩
  cases hF : F ds with
  | ok a =>
    rw [hF] at q
    intro S' H' w ⟨ho, h1, h2, h3⟩
    exact ⟨rfl, q S' H' w _ ⟨x, ho, rfl, hx, h1, h2, h3⟩⟩
  | err n ns vs => rw [hF] at q; exact fun C dd S' H' fs h1 w h2 h3 h4 => hE _ _ _ (q C dd S' H' fs h1 w h2 h3 h4)
  | bad => rw [hF] at q; exact q.elim
theorem de_make {x : Str} {C : Addr} (M : Mk X.K C fa) (F1 : FnOk X.prog X.w X.K X.mg X.base (L2.CX X.prog X.w) k fa fd ps (spI c.K c.cm C ms F)) (tk : Takes X c.W) (hr : Room (k + 1) X.A) (hg : Gl X x) (hm : X.mg x = some (.ref C)) (hb : L2.Binds X.K fd ps [])
    (ha : PA X (e :: es) (tM c G ms fs)) (hdb : (x == ("__debug__" : Str)) = false := by decide) (he : starEach (e :: es) X.env = (false, eval e X.env) :: starEach es X.env := by rfl) (hpl : (backTo pos (starEach es X.env)).any (·.1) = false := by rfl) :
    PE X (.Call (.Name x p) (e :: es) [] pos) (tO c G (dCall F fs)) :=
  pe_imp (pe_makeSD (dvs := []) (E := fun σ cls d H => c.W cls d σ H) M F1 hr hg hm hb .nil (fun σ => passAt tk σ) ha hdb he hpl) fun σ H Q ⟨S0, H0, S, r, ok, q⟩ => rd_seq ok q fun ds vs S1 H1 w1 o1 m1 p1 => fun x dx hx hdx hne => by
    rw [List.append_nil]
    exact make_rd (fun _ _ _ h => h) o1.ex m1 hx hdx hne (p1.anti w1.h)
end
def startI (n : Nat) (cls : Str) (ds : List D) : Rho := some (.obj cls [] []) :: ds.map some ++ List.replicate (n - (ds.length + 1)) none
def GI (x : Addr) (ms : List Bool) (n : Nat) : List Ow := .i x :: ms.map (fun m => if m then .b else .v) ++ List.replicate (n - (ms.length + 1)) .v
def runI (n : Nat) (cls : Str) (Fb : Rho → SR) (ds : List D) : Res D := match Fb (startI n cls ds) with
  | .nx r => (match r[0]? with
    | some (some d) => .ok d
    | _ => .bad)
  | .er _ n ns vs => .err n ns vs
  | _ => .bad
theorem kd_GI_succ {x : Addr} {ms : List Bool} {n i : Nat} : kd (GI x ms n) (i + 1) = kd (G0 ms (n - 1)) i := by
  unfold kd GI G0
  rw [List.getD_eq_getElem?_getD, List.getD_eq_getElem?_getD]
  simp [Nat.sub_sub, Nat.add_comm]
theorem startI_succ {n i : Nat} {cls : Str} {ds : List D} : (startI n cls ds)[i + 1]? = (startR (n - 1) ds)[i]? := by
  unfold startI startR
  simp [Nat.sub_sub, Nat.add_comm]
section
variable {P : Program} {w : World} {K : PySem.W.Frag} {mg : Str → Option Value} {base : Heap} {cm : CM}
theorem env_startI {c : Cf} {N : List Str} {S H1 : Hp} {us : List V} {ds : List D} {ms : List Bool} {x dx C : Addr} {n : Str} (hcn : c.cm n = some C) (ex : Ex S H1) (m : RpM c S H1 ms us ds) (hn : ms.length + 1 ≤ N.length) (hx : H1 x = none) (hdx : H1 dx = none) (hne : dx ≠ x) :
    EnvOk c S H1 (GI x ms N.length) S (upd (upd H1 dx (.own x)) x (.ins C dx [])) (L2.start N (.ref x :: us)) (startI N.length n ds) := by
  have hl := m.len
  have hx1 : (upd H1 dx (.own x)) x = none := by rw [upd_ne (Ne.symm hne)]; exact hx
  have e1 : Ex H1 (upd (upd H1 dx (.own x)) x (.ins C dx [])) := (Ex.new hdx).trans (Ex.new hx1)
  have fw : Fwd S H1 S (upd (upd H1 dx (.own x)) x (.ins C dx [])) := ⟨Ex.refl, e1, ex.trans e1, fun a o h n => by rw [n] at h; cases h⟩
  refine ⟨fw, by unfold L2.start startI; simp [hl.1, hl.2], fun i d h => ?_, fun i j d e p hi hj ki kj si sj => ?_, ⟨[], .nil fun i d hi => ?_⟩⟩
  · cases i with
    | zero =>
      have h : some (some (D.obj n [] [])) = some (some d) := h
      cases h
      refine ⟨.ref x, by unfold L2.start; simp, ?_⟩
      show SlotOk c H1 S _ (.i x) (.ref x) _
      exact ⟨rfl, x, _, rfl, upd_same, ex.nn hx, hx, .obj hcn rfl .nil⟩
    | succ i =>
      rw [startI_succ] at h
      have hd := startR_some h
      obtain ⟨v, mm, h1, h2, h3⟩ := m.get hd
      refine ⟨v, ?_, ?_⟩
      · unfold L2.start
        have hlt : i < us.length := (List.getElem?_eq_some_iff.mp h1).1
        rw [List.getElem?_append, if_pos (by simpa using hlt)]
        simp [h1]
      · rw [kd_GI_succ, kd_G0_at h2]
        cases mm with
        | true => exact h3
        | false => exact h3
  · cases i with
    | succ i => rw [kd_GI_succ] at ki; exact absurd ki kd_G0
    | zero => cases j with
      | zero => rfl
      | succ j => rw [kd_GI_succ] at kj; exact absurd kj kd_G0
  · cases i with
    | zero => exact ⟨fun _ h => (by cases h), fun h => (by cases h)⟩
    | succ i => rw [kd_GI_succ]; exact kd_G0_sw
/-- THE RULE for an __init__ -/
theorem dokI {x qual : Str} {st : Stmt} {f C : Addr} {fd : FuncData} {N ps : List Str} {k : Nat} {ms : List Bool} {n : Str} {Fb : Rho → SR} (F : Fun K x qual st f fd) (S : FnScope N ps (defScope st)) (hcn : cm n = some C) (hm : ms.length + 1 = ps.length) (hn : ps.length ≤ N.length)
    {G' : Addr → List Ow} (hG : ∀ a, kd (G' a) 0 = .i a)
    (hb : ∀ (cdv : Value) (A : Around) (outer : List Env) (s : Shared) (H : Hp) (E : XK) (a : Addr), Room k (A.deeper (PyProof.Rows.envOfC qual (defScope st) s.heap.objs.size f cdv)) →
      PSs (cxOf (L2.CX P w) P w K mg base N qual (defScope st) f cdv A outer s H E) (defBody st) (sD (cfE K cm false E) [] (GI a ms N.length) (G' a) Fb)) :
    FnOk P w K mg base (L2.CX P w) (k + 1) f fd ps (spI K cm C ms (runI N.length n Fb)) := by
  refine F.okX S (fun vs H Q E h => ?_) (fun cdv A outer s H vs Q E hr h => ?_)
  · obtain ⟨x, dx, H1, S, us, ds, rfl, _, _, _, _, _, m, _⟩ := h
    rw [List.length_cons, m.len.1, hm]
  · obtain ⟨x, dx, H1, S, us, ds, rfl, hx, hdx, hne, rfl, ex, m, q⟩ := h
    refine ⟨_, hb cdv A outer s _ E x hr, S, H1, S, startI N.length n ds, env_startI (c := cfE K cm false E) hcn ex (RpM.cf (c := ⟨K, cm, fun _ _ _ _ => False, none, true⟩) (c' := cfE K cm false E) rfl rfl m) (by omega) hx hdx hne, ?_⟩
    unfold runI at q
    cases hF : Fb (startI N.length n ds) with
    | rt d => rw [hF] at q; exact q.elim
    | nx r =>
      rw [hF] at q
      dsimp only at q
      intro σ' S' H' ok
      split at q
      · rename_i d hd
        obtain ⟨v, h1, h2⟩ := ok.slot 0 d hd
        rw [hG x] at h2
        obtain ⟨rfl, p, ho, e1, e2, e3, e4, e5⟩ := h2
        cases e1
        exact q S' H' ok.fwd ⟨ho, e3, e2, e5⟩
      · exact q.elim
    | er r n ns vs =>
      rw [hF] at q
      exact fun C dd σ' S' H' fs h1 fw _ h2 h3 h4 => q C dd S' H' fs h1 fw h2 h3 h4
    | bk r => rw [hF] at q; exact q.elim
    | ct r => rw [hF] at q; exact q.elim
    | bad => rw [hF] at q; exact q.elim
end
end Dx
end S_DxY
section S_DxZ
set_option Elab.async false
set_option linter.all false
set_option maxRecDepth 100000
set_option maxHeartbeats 2000000
namespace Dx
open PySem L2
section
variable {X : Cx} {c : Cf} {L G G' : List Ow} {f f1 f2 : Rho → Res D} {e e2 : Expr} {pos apos p : Pos} {fs : Rho → Res (List D)}
def enumS (d : D) : Res (List D) := (itemsS d).bind fun ds => .ok (numd 0 ds)
def pairs : List D → List D → List D
  | a :: as, b :: bs => .tup [a, b] :: pairs as bs
  | _, _ => []
def zipS : List D → Res (List D)
  | [.str x, .str y] => .ok (pairs (signs x) (signs y))
  | _ => .bad
def repS (x : Str) (n : Int) : Str := ⟨(List.replicate n.toNat x.cps.toList).flatten.toArray⟩
def rMulS : R2 := fun x y H Q => ∃ i j, x = .str i ∧ y = .int j ∧ j < 2 ^ 60 ∧ -(2 ^ 60) < j ∧ i.length * j.toNat ≤ sizeLine ∧ Q (.str (repS i j)) H
theorem repS_fold (x : Str) (n : Nat) (a : Array Nat) : (List.replicate n x.cps).foldl (· ++ ·) a = a ++ (List.replicate n x.cps.toList).flatten.toArray := by
  induction n generalizing a with
  | zero => simp
  | succ n ih => rw [List.replicate_succ, List.foldl_cons, ih, List.replicate_succ, List.flatten_cons]; apply Array.toList_inj.mp; simp
theorem op_mulS : OpR X (binaryOp .Mult) rMulS := by
  intro pins s σ H x y v u Q I rx ry h
  obtain ⟨i, j, rfl, rfl, h1, h2, hz, q⟩ := h
  obtain ⟨t, rfl⟩ := rx
  obtain ⟨t', rfl⟩ := ry
  have hz2 : (sizeLine : Nat) < 2 ^ 40 := by decide
  refine P.mul_str (by have a1 : ¬ j < -(2 ^ 63 : Int) := by omega
                       have a2 : ¬ j ≥ 2 ^ 63 := by omega
                       rw [decide_eq_false a1, decide_eq_false a2]; rfl) (fun hn hc => ?_) (fun hn hc => ?_) ?_
  · intro hgt
    have hj : 0 < j := by omega
    have h3 : (i.length : Int) * j ≤ sizeLine := by
      have : ((i.length * j.toNat : Nat) : Int) ≤ (sizeLine : Int) := by exact_mod_cast hz
      rw [Int.natCast_mul, Int.toNat_of_nonneg (by omega)] at this
      exact this
    have h4 : (2 ^ 63 - 1) / j + 1 ≤ (i.length : Int) := hgt
    have h5 : ((2 ^ 63 - 1) / j + 1) * j ≤ (i.length : Int) * j := Int.mul_le_mul_of_nonneg_right h4 (by omega)
    have h6 : (2 ^ 63 - 1) < ((2 ^ 63 - 1) / j + 1) * j := Int.lt_ediv_add_one_mul_self _ hj
    have h7 : ((sizeLine : Nat) : Int) < 2 ^ 40 := by exact_mod_cast hz2
    omega
  · exact decide_eq_false (Nat.not_lt.mpr hz)
  · have e1 : repS i j = ⟨(List.replicate j.toNat i.cps).foldl (· ++ ·) #[]⟩ := by
      unfold repS
      rw [repS_fold]; simp
    by_cases hn : j < 1
    · rw [if_pos hn]
      have : repS i j = Str.empty := by
        unfold repS
        rw [show j.toNat = 0 by omega]
        rfl
      rw [this] at q
      exact ⟨by decide, ⟨.str Str.empty, H, I.tok _, ⟨_, rfl⟩, q⟩⟩
    · rw [if_neg hn]
      by_cases hc : (j == 1 || i.length == 0) = true
      · rw [if_pos hc]
        have : repS i j = i := by
          rw [Bool.or_eq_true] at hc
          rcases hc with hc | hc
          · have : j = 1 := by simpa using hc
            subst this
            unfold repS
            apply Str.ext'
            simp
          · have h0 : i.cps.size = 0 := by have : i.length = 0 := by simpa using hc
                                           exact this
            have h0' : i.cps = #[] := Array.eq_empty_of_size_eq_zero h0
            unfold repS
            apply Str.ext'
            rw [h0']
            simp
        rw [this] at q
        exact ⟨.str i, H, I, ⟨_, rfl⟩, q⟩
      · rw [if_neg hc, ← e1]
        refine ⟨?_, ⟨.str (repS i j), H, I.tok _, ⟨_, rfl⟩, q⟩⟩
        have : (repS i j).length = i.length * j.toNat := by
          show (List.replicate j.toNat i.cps.toList).flatten.toArray.size = _
          rw [List.size_toArray, List.length_flatten, List.map_replicate, List.sum_replicate_nat, Array.length_toList, Nat.mul_comm]; rfl
        rw [this]; exact hz
noncomputable def mulX : D → D → Res D
  | .str a, .int k => guard (k < 2 ^ 60 ∧ -(2 ^ 60) < k ∧ a.length * k.toNat ≤ sizeLine) (.ok (.str (repS a k)))
  | x, y => mulD x y
def rMulY : R2 := fun x y H Q => rMulX x y H Q ∨ rMulS x y H Q
theorem or_mulX : OpR X (binaryOp .Mult) rMulY := or_mul.or op_mulS
theorem os_mulX : OpS c (mV c) rMulY mulX := by
  intro σ S H x y d e Q ex hx hy p
  unfold mulX at p
  split at p
  · cases hx.str; cases hy.int
    obtain ⟨⟨h1, h2, h3⟩, p⟩ := p.gd
    exact .inr ⟨_, _, rfl, rfl, h1, h2, h3, p.here ex (.str _)⟩
  · exact .inl (os_mul σ S H x y _ _ Q ex hx hy p)
variable {cpos : Pos}
end
end Dx
end S_DxZ
section S_DxO
set_option Elab.async false
set_option linter.all false
set_option maxRecDepth 100000
set_option maxHeartbeats 2000000
namespace Dx
open PySem L2 ItX
open PyProof.Rows hiding St
section
variable {X : Cx} {k : Nat} {fa C : Addr} {fd : FuncData} {ps : List Str} {sp : Sp} {pins : List (Addr × Obj)} {σ : St} {H : Hp} {s : Shared} {Q : VK} {us : List Value} {vs : List V}
abbrev noX : XK := fun _ _ _ => False
/-- a def runs below, and raises nothing -/
theorem run_ce {A : Around} {R : Value → Shared → Prop} {E' : Value → Shared → Prop} (F1 : FnOk X.prog X.w X.K X.mg X.base (L2.CX X.prog X.w) k fa fd ps sp) (hr : Room k A) (e0 : Env0 X.prog X.w X.K X.mg X.base A X.stack s H) (hb : L2.Binds X.K fd ps []) (hK : X.K.In s.heap) (r : Vals vs us) (h : sp vs H Q noX)
    (fin : ∀ u s', CE X.stack X.prog X.w H s Q u s' → R u s') : wpAny (model X.prog X.w) A (call (.ref fa) us) R E' s := by
  have hl : (us ++ []).length = ps.length := by rw [List.append_nil, ← r.length]; exact F1.len _ _ _ _ h
  have hb2 := hb s us hK hl
  rw [List.append_nil] at hb2
  refine wpAny_call (codeAny_mono (F1.run A X.stack s H ⟨us, []⟩ us vs Q noX hr e0 hb2 r h) fun r s' hq => ?_)
  cases r with
  | error e => exact (cx_never hq).elim
  | ok fl =>
    cases fl with
    | ret u => exact fin u s' hq
    | next => exact False.elim hq
    | brk => exact False.elim hq
    | cont => exact False.elim hq
theorem run_calm {A : Around} {E' : Value → Shared → Prop} (F1 : FnOk X.prog X.w X.K X.mg X.base (L2.CX X.prog X.w) k fa fd ps sp) (hr : Room k A) (e0 : Env0 X.prog X.w X.K X.mg X.base A X.stack s H) (hb : L2.Binds X.K fd ps []) (I : Inv X pins σ H s) (r : Vals vs us) (h : sp vs H Q noX) :
    wpAny (model X.prog X.w) A (call (.ref fa) us) (EP X pins σ Q) E' s := run_ce F1 hr e0 hb I.kIn r h fun u s' hq => I.after hq
theorem ins_at {a dx : Addr} {fs : List (Str × V)} (I : Inv X pins σ H s) (h : H a = some (.ins C dx fs)) : ∃ ox od, PySem.W.InstAt s.heap a ox C od ∧ ox.data = .plain := by
  obtain ⟨mA, O, _⟩ := ins_get I.hok h
  obtain ⟨od, J, _⟩ := O.look
  exact ⟨_, _, J, rfl⟩
def rLenO (C : Addr) (sp : Sp) : List V → Hp → VK → Prop := fun xs H Q => ∃ a dx fs, xs = [V.ref a] ∧ H a = some (.ins C dx fs) ∧ sp [.ref a] H (fun z H' => ∃ i : Int, z = .int i ∧ 0 ≤ i ∧ i < 2 ^ 63 ∧ Q z H') noX
theorem call_lenO (hm : L2.Meth X.K C "__len__" fa) (F1 : FnOk X.prog X.w X.K X.mg X.base (L2.CX X.prog X.w) k fa fd ps sp) (hr : Room (k + 1) X.A) (hb : L2.Binds X.K fd ps []) : CallR X (.builtin "len") (rLenO C sp) := by
  intro pins s σ H xs us Q I r h
  obtain ⟨a, dx, fs, rfl, ha, q⟩ := h
  obtain ⟨u, rfl, ru⟩ := r.one
  cases ru
  obtain ⟨ox, od, J, _⟩ := ins_at I ha
  obtain ⟨m, hF⟩ := I.fr
  refine PySem.W.len_K hF I.ok.mod.kin J hm.at_ hm.fn (wpAny_mono (run_calm (us := [.ref a]) (vs := [.ref a]) F1 hr.in1 I.env0.in1 hb I (.cons rfl .nil) q) (fun w s' z => ?_) fun _ _ x => x)
  obtain ⟨z', H', I', rz, i, rfl, h0, h1, qz⟩ := z
  obtain ⟨t, rfl⟩ := rz
  exact ⟨⟨h0, h1⟩, .int i, H', I'.tok _, ⟨_, rfl⟩, qz⟩
/-- o op p, both of the class -/
def rCmpO (C : Addr) (sp : Sp) : R2 := fun x y H Q => ∃ a dx fs b dy gs, x = V.ref a ∧ y = V.ref b ∧ H a = some (.ins C dx fs) ∧ H b = some (.ins C dy gs) ∧ sp [.ref a, .ref b] H Q noX
theorem op_cmpO {op : CmpOp} (hop : ∀ a b, compareOp op a b = richCompare op a b) (hn : PySem.W.notFirst X.K C (.ref C) = true) (hm : L2.Meth X.K C (cmpInfo op).2.1 fa) (F1 : FnOk X.prog X.w X.K X.mg X.base (L2.CX X.prog X.w) k fa fd ps sp) (hr : Room k X.A) (hb : L2.Binds X.K fd ps []) : OpR X (compareOp op) (rCmpO C sp) := by
  intro pins s σ H x y v u Q I rx ry h
  obtain ⟨a, dx, fs, b, dy, gs, rfl, rfl, ha, hb', q⟩ := h
  cases rx
  cases ry
  obtain ⟨ox, od, J, _⟩ := ins_at I ha
  obtain ⟨ox', od', J', _⟩ := ins_at I hb'
  obtain ⟨m, hF⟩ := I.fr
  rw [hop]
  refine PySem.W.cmp_K (op := op) (tb := .ref C) hr.units0 hF I.ok.mod.kin J J'.type hn hm.at_ hm.fn (wpAny_mono (run_calm (us := [.ref a, .ref b]) (vs := [.ref a, .ref b]) F1 hr I.env0 hb I (.cons rfl (.cons rfl .nil)) q) (fun w s' z => ?_) fun _ _ x => x)
  obtain ⟨z', H', I', rz, qz⟩ := z
  exact SlX.cmpback rz ⟨z', H', I', rz, qz⟩
end
section
variable {X : Cx} {c : Cf} {L G G' : List Ow} {f f1 : Rho → Res D} {e o : Expr} {es : List Expr} {pos apos p : Pos} {fs : Rho → Res (List D)} {n : Str} {C : Addr} {F : List D → Res D} {ms : List Bool} {rm : Bool} {k : Nat} {fa : Addr} {fd : FuncData} {ps : List Str}
theorem calm_sp {S H : Hp} {vs : List V} {ds : List D} {Q : VK} {a : D} (ex : Ex S H) (m : RpM c S H ms vs ds) (hF : F ds = .ok a) (q : ∀ S' H' b, Fwd S H S' H' → mR c rm H S' H' b a → Q b H') : spD c.K c.cm ms rm F vs H Q noX := by
  refine call_rd (c := ⟨c.K, c.cm, fun _ _ _ _ => False, none, rm⟩) (σ := []) (fun _ _ _ h => h) ex (RpM.cf (c := c) (c' := ⟨c.K, c.cm, fun _ _ _ _ => False, none, rm⟩) rfl rfl m) ?_
  rw [hF]
  exact fun S' H' w b hb => q S' H' b w (by cases rm <;> exact hb)
/-- an object of the class n -/
def isCls (n : Str) : D → Bool
  | .obj c _ _ => decide (c = n)
  | _ => false
theorem of_isCls {S H : Hp} {v : V} {d : D} (ex : Ex S H) (hcn : c.cm n = some C) (h : isCls n d = true) (m : RpB c.K c.cm S H v d) : ∃ a dx fs, v = .ref a ∧ H a = some (.ins C dx fs) := by
  cases d with
  | obj c' ns vs =>
    have hc : c' = n := of_decide_eq_true h
    subst hc
    obtain ⟨q, C', dx, fs, rfl, h1, h2, _, _⟩ := RpB.obj m ex
    rw [hcn] at h1; cases h1
    exact ⟨q, dx, fs, rfl, h2⟩
  | _ => cases h
noncomputable def lenO (n : Str) (F : List D → Res D) (d : D) : Res D := if isCls n d = true then (match F [d] with
  | .ok (.int i) => guard (0 ≤ i ∧ i < 2 ^ 63) (.ok (.int i))
  | _ => .bad) else .bad
theorem cs_lenO (hcn : c.cm n = some C) : CallS c (mV c) (rLenO C (spD c.K c.cm [true] false F)) [true] (g1 (lenO n F)) := by
  intro σ S H vs ds Q ex m p
  obtain ⟨v, d, rfl, rfl, h⟩ := m.one
  have p : PostG c σ S H (lenO n F d) _ := p
  unfold lenO at p
  split at p
  · rename_i hc
    obtain ⟨a, dx, gs, rfl, h2⟩ := of_isCls ex hcn hc h
    split at p
    · rename_i i hF
      obtain ⟨⟨h0, h1⟩, p⟩ := p.gd
      exact ⟨a, dx, gs, rfl, h2, calm_sp (ds := [d]) ex ⟨h, trivial⟩ hF fun S' H' b w hb => by
        have hb : Rp c.K c.cm S' b (.int i) := hb
        cases hb
        exact ⟨i, rfl, h0, h1, p S' H' w _ (.int i)⟩⟩
    · exact p.elim
  · exact p.elim
def binO (n : Str) (F : List D → Res D) (x d : D) : Res D := if isCls n x = true ∧ isCls n d = true then (match F [x, d] with
  | .ok a => .ok a
  | _ => .bad) else .bad
theorem os_binO (hcn : c.cm n = some C) : OpS c (mR c rm) (rCmpO C (spD c.K c.cm [true, true] rm F)) (binO n F) := by
  intro σ S H x y d e Q ex hx hy p
  unfold binO at p
  split at p
  · rename_i hc
    obtain ⟨a, dx, gs, rfl, h2⟩ := of_isCls ex hcn hc.1 hx
    obtain ⟨b, dy, gs', rfl, h3⟩ := of_isCls ex hcn hc.2 hy
    split at p
    · rename_i r hF
      exact ⟨a, dx, gs, b, dy, gs', rfl, rfl, h2, h3, calm_sp (ds := [d, e]) ex ⟨hx, hy, trivial⟩ hF fun S' H' v w hb => p S' H' w v hb⟩
    · exact p.elim
  · exact p.elim
def dStar (f : Rho → Res D) (fs : Rho → Res (List D)) : Rho → Res (List D) := fun r => (f r).bind fun d => (items d).bind fun xs => (fs r).bind fun ys => .ok (xs ++ ys)
def zipL : List D → Res (List D)
  | [.lst x, .lst y] => .ok (pairs x y)
  | _ => .bad
end
end Dx
end S_DxO
section S_DxP
set_option Elab.async false
set_option linter.all false
set_option maxRecDepth 100000
set_option maxHeartbeats 2000000
namespace Dx
open PySem L2 ItX
open PyProof.Rows hiding St
end Dx
end S_DxP
section S_DxM
set_option Elab.async false
set_option linter.all false
set_option maxRecDepth 100000
namespace Dx
open PySem L2
def Rs {α : Type} (x : Res α) (Q : α → Prop) (E : Str → List Str → List D → Prop) : Prop := match x with
  | .ok a => Q a
  | .err n ns vs => E n ns vs
  | .bad => False
def nE : Str → List Str → List D → Prop := fun _ _ _ => False
def nE' : Rho → Str → List Str → List D → Prop := fun _ _ _ _ => False
def nR : Rho → Prop := fun _ => False
def Ss (o : SR) (N : Rho → Prop) (R : D → Prop) (B C : Rho → Prop) (E : Rho → Str → List Str → List D → Prop) : Prop := match o with
  | .nx r => N r
  | .rt d => R d
  | .bk r => B r
  | .ct r => C r
  | .er r n ns vs => E r n ns vs
  | .bad => False
section
variable {α β : Type} {Q Q' : α → Prop} {E E' : Str → List Str → List D → Prop}
theorem Rs.imp {x : Res α} (h : Rs x Q nE) (k : ∀ a, Q a → Q' a) : Rs x Q' E := by
  cases x with
  | ok a => exact k a h
  | err n ns vs => exact h.elim
  | bad => exact h.elim
theorem Rs.impE {x : Res α} (h : Rs x Q E) (k : ∀ a, Q a → Q' a) (l : ∀ n ns vs, E n ns vs → E' n ns vs) : Rs x Q' E' := by
  cases x with
  | ok a => exact k a h
  | err n ns vs => exact l _ _ _ h
  | bad => exact h.elim
theorem Rs.of {x : Res α} {a : α} (h : x = .ok a) (q : Q a) : Rs x Q E := by rw [h]; exact q
theorem Rs.ofE {x : Res α} {n : Str} {ns : List Str} {vs : List D} (h : x = .err n ns vs) (q : E n ns vs) : Rs x Q E := by rw [h]; exact q
theorem Rs.eq {x : Res α} {a : α} (h : Rs x (fun b => b = a) nE) : x = .ok a := by
  cases x with
  | ok b => exact congrArg _ h
  | err n ns vs => exact h.elim
  | bad => exact h.elim
theorem Rs.get {x : Res α} (h : Rs x Q nE) : ∃ a, x = .ok a ∧ Q a := by
  cases x with
  | ok a => exact ⟨a, rfl, h⟩
  | err n ns vs => exact h.elim
  | bad => exact h.elim
theorem Rs.errEq {x : Res α} {n : Str} {ns : List Str} {vs : List D} (h : Rs x (fun _ => False) fun a b c => a = n ∧ b = ns ∧ c = vs) : x = .err n ns vs := by
  cases x with
  | ok b => exact h.elim
  | err a b c => obtain ⟨rfl, rfl, rfl⟩ := h; rfl
  | bad => exact h.elim
theorem Rs.bind {x : Res β} {k : β → Res α} (h : Rs x (fun b => Rs (k b) Q E) E) : Rs (x.bind k) Q E := by
  cases x with
  | ok a => exact h
  | err n ns vs => exact h
  | bad => exact h
theorem rs_ok {a : α} (q : Q a) : Rs (.ok a) Q E := q
theorem rs_guard {p : Prop} {x : Res α} (h : p) (k : Rs x Q E) : Rs (guard p x) Q E := by rw [guard_pos h]; exact k
end
section
variable {Q : D → Prop} {E : Str → List Str → List D → Prop} {r : Rho} {f f1 f2 f3 : Rho → Res D} {fs : Rho → Res (List D)} {t u : Rho → Res Bool} {d : D} {i : Nat}
theorem rs_var (h : r[i]? = some (some d)) (q : Q d) : Rs (dVar i r) Q E := by unfold dVar; rw [h]; exact q
theorem rs_c (q : Q d) : Rs (dC d r) Q E := q
theorem rs_op {g : D → D → Res D} (h : Rs (f1 r) (fun a => Rs (f2 r) (fun b => Rs (g a b) Q E) E) E) : Rs (dOp g f1 f2 r) Q E := Rs.bind (h.impE (fun a q => Rs.bind q) fun _ _ _ z => z)
theorem rs_str {g : D → D → Res D} (h : Rs (f1 r) (fun a => Rs (asS a) (fun _ => Rs (f2 r) (fun b => Rs (g a b) Q E) E) E) E) : Rs (dStr g f1 f2 r) Q E := Rs.bind (h.impE (fun a q => Rs.bind (q.impE (fun _ q => Rs.bind q) fun _ _ _ z => z)) fun _ _ _ z => z)
theorem rs_asS {z : Str} {Q : Str → Prop} (q : Q z) : Rs (asS (.str z)) Q E := q
theorem rs_un {g : D → Res D} (h : Rs (f r) (fun a => Rs (g a) Q E) E) : Rs (dUn g f r) Q E := Rs.bind h
theorem rs_nil {Q : List D → Prop} (q : Q []) : Rs (dNil r) Q E := q
theorem rs_cons {Q : List D → Prop} (h : Rs (f r) (fun x => Rs (fs r) (fun xs => Q (x :: xs)) E) E) : Rs (dCons f fs r) Q E := Rs.bind (h.impE (fun a q => Rs.bind q) fun _ _ _ z => z)
theorem rs_call {g : List D → Res D} (h : Rs (fs r) (fun ds => Rs (g ds) Q E) E) : Rs (dCall g fs r) Q E := Rs.bind h
theorem rs_tup (h : Rs (fs r) (fun ds => ds.length ≤ sizeLine ∧ Q (.tup ds)) E) : Rs (dTup fs r) Q E := Rs.bind (h.impE (fun ds q => rs_guard q.1 q.2) fun _ _ _ z => z)
theorem rs_lst (h : Rs (fs r) (fun ds => ds.length ≤ sizeLine ∧ Q (.lst ds)) E) : Rs (dLst fs r) Q E := Rs.bind (h.impE (fun ds q => rs_guard q.1 q.2) fun _ _ _ z => z)
theorem rs_T {Q : Bool → Prop} (h : Rs (f r) (fun d => Rs (asB d) Q E) E) : Rs (dT f r) Q E := Rs.bind h
theorem rs_asB {b : Bool} {Q : Bool → Prop} (q : Q b) : Rs (asB (.bl b)) Q E := q
theorem rs_asI {b : Int} {Q : Int → Prop} (q : Q b) : Rs (asI (.int b)) Q E := q
theorem rs_not {Q : Bool → Prop} (h : Rs (t r) (fun b => Q (!b)) E) : Rs (dNot t r) Q E := Rs.bind h
theorem rs_and {Q : Bool → Prop} (h : Rs (t r) (fun a => Rs (u r) (fun b => Q (a && b)) nE) E) : Rs (dAnd t u r) Q E := Rs.bind (h.impE (fun a q => by
  cases a
  · obtain ⟨b, _, q⟩ := q.get
    exact q
  · exact q.impE (fun _ z => z) fun _ _ _ z => z.elim) fun _ _ _ z => z)
theorem rs_or {Q : Bool → Prop} (h : Rs (t r) (fun a => Rs (u r) (fun b => Q (a || b)) nE) E) : Rs (dOr t u r) Q E := Rs.bind (h.impE (fun a q => by
  cases a
  · exact q.impE (fun _ z => z) fun _ _ _ z => z.elim
  · obtain ⟨b, _, q⟩ := q.get
    exact q) fun _ _ _ z => z)
theorem rs_andc {Q : Bool → Prop} (h : Rs (t r) (fun a => (a = true → Rs (u r) Q E) ∧ (a = false → Q false)) E) : Rs (dAnd t u r) Q E := Rs.bind (h.impE (fun a q => by
  cases a
  · exact q.2 rfl
  · exact q.1 rfl) fun _ _ _ z => z)
theorem rs_orc {Q : Bool → Prop} (h : Rs (t r) (fun a => (a = true → Q true) ∧ (a = false → Rs (u r) Q E)) E) : Rs (dOr t u r) Q E := Rs.bind (h.impE (fun a q => by
  cases a
  · exact q.2 rfl
  · exact q.1 rfl) fun _ _ _ z => z)
theorem rs_andV (h : Rs (f1 r) (fun a => Rs (asB a) (fun a => Rs (f2 r) (fun b => Rs (asB b) (fun b => Q (.bl (a && b))) nE) nE) E) E) : Rs (dAndV f1 f2 r) Q E := Rs.bind (h.impE (fun a q => Rs.bind (q.impE (fun a q => by
  obtain ⟨b, e, q⟩ := q.get
  cases b with
  | bl b =>
    cases a
    · exact q
    · exact Rs.of e q
  | _ => exact q.elim) fun _ _ _ z => z)) fun _ _ _ z => z)
theorem rs_orV (h : Rs (f1 r) (fun a => Rs (asB a) (fun a => Rs (f2 r) (fun b => Rs (asB b) (fun b => Q (.bl (a || b))) nE) nE) E) E) : Rs (dOrV f1 f2 r) Q E := Rs.bind (h.impE (fun a q => Rs.bind (q.impE (fun a q => by
  obtain ⟨b, e, q⟩ := q.get
  cases b with
  | bl b =>
    cases a
    · exact Rs.of e q
    · exact q
  | _ => exact q.elim) fun _ _ _ z => z)) fun _ _ _ z => z)
theorem rs_andVc (h : Rs (f1 r) (fun a => Rs (asB a) (fun a => (a = true → Rs (f2 r) Q E) ∧ (a = false → Q (.bl false))) E) E) : Rs (dAndV f1 f2 r) Q E := Rs.bind (h.impE (fun a q => Rs.bind (q.impE (fun a q => by
  cases a
  · exact q.2 rfl
  · exact q.1 rfl) fun _ _ _ z => z)) fun _ _ _ z => z)
theorem rs_orVc (h : Rs (f1 r) (fun a => Rs (asB a) (fun a => (a = true → Q (.bl true)) ∧ (a = false → Rs (f2 r) Q E)) E) E) : Rs (dOrV f1 f2 r) Q E := Rs.bind (h.impE (fun a q => Rs.bind (q.impE (fun a q => by
  cases a
  · exact q.2 rfl
  · exact q.1 rfl) fun _ _ _ z => z)) fun _ _ _ z => z)
theorem rs_notV (h : Rs (f r) (fun a => Rs (asB a) (fun b => Q (.bl (!b))) E) E) : Rs (dNotV f r) Q E := Rs.bind (h.impE (fun a q => Rs.bind q) fun _ _ _ z => z)
theorem rs_ifx {α : Type} {Q : α → Prop} {f g : Rho → Res α} (h : Rs (t r) (fun b => (b = true → Rs (f r) Q E) ∧ (b = false → Rs (g r) Q E)) E) : Rs (dIf t f g r) Q E := Rs.bind (h.impE (fun a q => by
  cases a
  · exact q.2 rfl
  · exact q.1 rfl) fun _ _ _ z => z)
theorem rs_tru {Q : Bool → Prop} (h : Rs (f r) (fun d => Rs (truB d) Q E) E) : Rs (dTru f r) Q E := Rs.bind h
theorem rs_truB {b : Bool} {Q : Bool → Prop} (q : Q b) : Rs (truB (.bl b)) Q E := q
theorem rs_truI {b : Int} {Q : Bool → Prop} (q : Q (b != 0)) : Rs (truB (.int b)) Q E := q
theorem rs_truL {ds : List D} {Q : Bool → Prop} (q : Q (!ds.isEmpty)) : Rs (truB (.lst ds)) Q E := q
theorem rs_truT {ds : List D} {Q : Bool → Prop} (q : Q (!ds.isEmpty)) : Rs (truB (.tup ds)) Q E := q
theorem rs_truN {Q : Bool → Prop} (q : Q false) : Rs (truB .non) Q E := q
theorem rs_chain {g g' : D → D → Res D} (h : Rs (f1 r) (fun x => Rs (f2 r) (fun y => Rs (g x y) (fun z => Rs (asB z) (fun a => Rs (f3 r) (fun w => Rs (g' y w) (fun e => Rs (asB e) (fun b => Q (.bl (a && b))) nE) nE) nE) E) E) E) E) : Rs (dChain g g' f1 f2 f3 r) Q E :=
  Rs.bind (h.impE (fun x q => Rs.bind (q.impE (fun y q => Rs.bind (q.impE (fun z q => Rs.bind (q.impE (fun a q => by
    obtain ⟨w, e1, q⟩ := q.get
    obtain ⟨e, e2, q⟩ := q.get
    cases e with
    | bl b =>
      cases a
      · exact q
      · exact Rs.bind (Rs.of e1 (Rs.of e2 q))
    | _ => exact q.elim) fun _ _ _ z => z)) fun _ _ _ z => z)) fun _ _ _ z => z)) fun _ _ _ z => z)
theorem rs_noP {Q : Option Int → Prop} (q : Q none) : Rs (dNoP r) Q E := q
theorem rs_part {Q : Option Int → Prop} (h : Rs (f r) (fun d => Rs (asI d) (fun i => Q (some i)) E) E) : Rs (dPart f r) Q E := Rs.bind (h.impE (fun a q => Rs.bind q) fun _ _ _ z => z)
theorem rs_sl {g : D → Option Int → Option Int → Res D} {fl fh : Rho → Res (Option Int)} (h : Rs (f r) (fun d => Rs (fl r) (fun l => Rs (fh r) (fun k => Rs (g d l k) Q E) E) E) E) : Rs (dSl g f fl fh r) Q E := Rs.bind (h.impE (fun a q => Rs.bind (q.impE (fun _ q => Rs.bind q) fun _ _ _ z => z)) fun _ _ _ z => z)
theorem rs_it {g : D → Res (List D)} {Q : List D → Prop} (h : Rs (f r) (fun d => Rs (g d) Q E) E) : Rs (dIt g f r) Q E := Rs.bind h
theorem rs_its {g : List D → Res (List D)} {Q : List D → Prop} (h : Rs (fs r) (fun d => Rs (g d) Q E) E) : Rs (dIts g fs r) Q E := Rs.bind h
theorem rs_yes {Q : Bool → Prop} (q : Q true) : Rs (dYes r) Q E := q
theorem rs_meth {n m : Str} {F : List D → Res D} (h : Rs (f r) (fun x => Rs (isObj n m x) (fun _ => Rs (fs r) (fun ds => Rs (F (x :: ds)) Q E) E) E) E) : Rs (dMeth n m F f fs r) Q E := Rs.bind (h.impE (fun a q => Rs.bind (q.impE (fun _ q => Rs.bind q) fun _ _ _ z => z)) fun _ _ _ z => z)
theorem rs_isObj {n m : Str} {ns : List Str} {vs : List D} {Q : Unit → Prop} (h : m ∉ ns) (q : Q ()) : Rs (isObj n m (.obj n ns vs)) Q E := by
  show Rs (if n = n ∧ m ∉ ns then .ok () else .bad) Q E
  rw [if_pos ⟨rfl, h⟩]; exact q
theorem rs_fld {n fl : Str} {ns : List Str} {vs : List D} (h : lookF ns vs fl = some d) (q : Q d) : Rs (fldD n fl (.obj n ns vs)) Q E := by
  show Rs (if n = n then (match lookF ns vs fl with | some d => .ok d | none => .bad) else .bad) Q E
  rw [if_pos rfl, h]; exact q
end
abbrev Sg (l : List Nat) : Str := ⟨l.toArray⟩
theorem ST_len (l : List Nat) : (Sg l).length = l.length := by simp [Sg, Str.length]
theorem ST_app (a b : List Nat) : Sg a ++ Sg b = Sg (a ++ b) := TL.ext_tl (by rw [TL.tl_append])
theorem ST_inj {a b : List Nat} : Sg a = Sg b ↔ a = b := ⟨fun h => congrArg TL.tl h, fun h => by rw [h]⟩
theorem ST_dec (a b : List Nat) : decide (Sg a = Sg b) = decide (a = b) := by
  by_cases h : a = b
  · subst h; simp
  · simp [h, ST_inj]
section
variable {Q : D → Prop} {E : Str → List Str → List D → Prop} {i j : Int} {a b : List Nat} {ds es : List D} {d e : D}
theorem rs_add (q : Q (.int (i + j))) : Rs (addD (.int i) (.int j)) Q E := q
theorem rs_addS (h : a.length + b.length ≤ sizeLine) (q : Q (.str (Sg (a ++ b)))) : Rs (addD (.str (Sg a)) (.str (Sg b))) Q E := rs_guard (by rw [ST_len, ST_len]; exact h) (by rw [ST_app]; exact q)
theorem rs_addT (h : ds.length + es.length ≤ sizeLine) (q : Q (.tup (ds ++ es))) : Rs (addD (.tup ds) (.tup es)) Q E := rs_guard h q
theorem rs_addLL (h : ds.length + es.length ≤ sizeLine) (q : Q (.lst (ds ++ es))) : Rs (addD (.lst ds) (.lst es)) Q E := rs_guard h q
theorem rs_addLO (h : ds.length + es.length ≤ sizeLine) (q : Q (.lst (ds ++ es))) : Rs (addL (.lst ds) (.lst es)) Q E := rs_guard h q
theorem rs_sub (q : Q (.int (i - j))) : Rs (subD (.int i) (.int j)) Q E := q
theorem rs_neg (q : Q (.int (-i))) : Rs (negD (.int i)) Q E := q
theorem rs_mul (h : smallI i ∨ smallI j) (q : Q (.int (i * j))) : Rs (mulX (.int i) (.int j)) Q E := rs_guard h q
theorem rs_fdiv (h : 0 < j ∧ j < 4611686018427387904) (q : Q (.int (i / j))) : Rs (fdivD (.int i) (.int j)) Q E := by
  show Rs (if 0 < j then guard (j < 4611686018427387904) (.ok (.int (i / j))) else _) Q E
  rw [if_pos h.1]; exact rs_guard h.2 q
theorem rs_mod (h : 0 < j) (q : Q (.int (i % j))) : Rs (modD (.int i) (.int j)) Q E := rs_guard h q
theorem rs_eqI (q : Q (.bl (decide (i = j)))) : Rs (eqD (.int i) (.int j)) Q E := q
theorem rs_neI (q : Q (.bl (!decide (i = j)))) : Rs (neD (.int i) (.int j)) Q E := q
theorem rs_eqS (q : Q (.bl (decide (a = b)))) : Rs (eqD (.str (Sg a)) (.str (Sg b))) Q E := by
  show Q (.bl (decide (Sg a = Sg b)))
  rw [ST_dec]; exact q
theorem rs_neS (q : Q (.bl (!decide (a = b)))) : Rs (neD (.str (Sg a)) (.str (Sg b))) Q E := by
  show Q (.bl (!decide (Sg a = Sg b)))
  rw [ST_dec]; exact q
theorem rs_eqB {x y : Bool} (q : Q (.bl (decide (x = y)))) : Rs (eqD (.bl x) (.bl y)) Q E := q
theorem rs_neB {x y : Bool} (q : Q (.bl (!decide (x = y)))) : Rs (neD (.bl x) (.bl y)) Q E := q
theorem rs_lt (q : Q (.bl (decide (i < j)))) : Rs (ltD (.int i) (.int j)) Q E := q
theorem rs_le (q : Q (.bl (decide (i ≤ j)))) : Rs (leD (.int i) (.int j)) Q E := q
theorem rs_gt (q : Q (.bl (decide (j < i)))) : Rs (gtD (.int i) (.int j)) Q E := q
theorem rs_ge (q : Q (.bl (decide (j ≤ i)))) : Rs (geD (.int i) (.int j)) Q E := q
theorem rs_is (q : Q (.bl (isN d))) : Rs (isD false d .non) Q E := q
theorem rs_isn (q : Q (.bl (!isN d))) : Rs (isD true d .non) Q E := q
theorem rs_inS {n : Nat} (q : Q (.bl (decide (n ∈ b)))) : Rs (inD (.str (Sg [n])) (.str (Sg b))) Q E := q
theorem rs_ninS {n : Nat} (q : Q (.bl (!decide (n ∈ b)))) : Rs (ninD (.str (Sg [n])) (.str (Sg b))) Q E := q
theorem rs_lenS (h : a.length ≤ sizeLine) (q : Q (.int a.length)) : Rs (g1 lenD [.str (Sg a)]) Q E := rs_guard (by rw [ST_len]; exact h) (by show Q _; rw [ST_len]; exact q)
theorem rs_lenL (q : Q (.int ds.length)) : Rs (g1 lenD [.lst ds]) Q E := q
theorem rs_lenF (q : Q (.int ds.length)) : Rs (g1 lenD [.fz ds]) Q E := q
theorem rs_lenT (q : Q (.int ds.length)) : Rs (g1 lenD [.tup ds]) Q E := q
theorem rs_int (q : Q (.int i)) : Rs (g1 intD [.int i]) Q E := q
theorem rs_intB {x : Bool} (q : Q (.int (if x then 1 else 0))) : Rs (g1 intD [.bl x]) Q E := q
theorem rs_abs (q : Q (.int (if i < 0 then -i else i))) : Rs (g1 absD [.int i]) Q E := q
theorem rs_listL (q : Q (.lst ds)) : Rs (g1 listD [.lst ds]) Q E := q
theorem rs_listT (q : Q (.lst ds)) : Rs (g1 listD [.tup ds]) Q E := q
theorem rs_tupL (q : Q (.tup ds)) : Rs (g1 tupleD [.lst ds]) Q E := q
theorem rs_tupT (q : Q (.tup ds)) : Rs (g1 tupleD [.tup ds]) Q E := q
theorem rs_ixL (h : atI ds i = some d) (q : Q d) : Rs (ixD (.lst ds) (.int i)) Q E := by
  show Rs (match atI ds i with | some d => Res.ok d | none => Res.bad) Q E
  rw [h]; exact q
theorem rs_ixF (h : atI ds i = some d) (q : Q d) : Rs (ixD (.fz ds) (.int i)) Q E := by
  show Rs (match atI ds i with | some d => Res.ok d | none => Res.bad) Q E
  rw [h]; exact q
theorem rs_ixT (h : atI ds i = some d) (q : Q d) : Rs (ixD (.tup ds) (.int i)) Q E := by
  show Rs (match atI ds i with | some d => Res.ok d | none => Res.bad) Q E
  rw [h]; exact q
theorem rs_ixS {n : Nat} (h : a.length ≤ sizeLine ∧ atI a i = some n) (q : Q (.str (Sg [n]))) : Rs (ixD (.str (Sg a)) (.int i)) Q E := rs_guard (by rw [ST_len]; exact h.1) (by
  show Rs (match atI a i with | some n => Res.ok (D.str ⟨#[n]⟩) | none => Res.bad) Q E
  rw [h.2]; exact q)
theorem rs_slL {lo hi : Option Int} (q : Q (.lst (cutL ds lo hi))) : Rs (slD (.lst ds) lo hi) Q E := q
theorem rs_slO {lo hi : Option Int} (q : Q (.lst (cutL ds lo hi))) : Rs (slL (.lst ds) lo hi) Q E := q
theorem rs_slT {lo hi : Option Int} (q : Q (.tup (cutL ds lo hi))) : Rs (slD (.tup ds) lo hi) Q E := q
theorem cutS_ST {lo hi : Option Int} : cutS (Sg a) lo hi = Sg (cutL a lo hi) := by
  unfold cutS cutL
  rw [ST_len]
theorem rs_slS {lo hi : Option Int} (h : a.length ≤ sizeLine) (q : Q (.str (Sg (cutL a lo hi)))) : Rs (slD (.str (Sg a)) lo hi) Q E := rs_guard (by rw [ST_len]; exact h) (by rw [cutS_ST]; exact q)
theorem rs_rng1 {n : Nat} {Q : List D → Prop} (h : n < 4611686018427387904) (q : Q (rngL 0 n)) : Rs (rng1 [.int (n : Int)]) Q E := rs_guard (by omega) (by rw [Int.toNat_natCast]; exact q)
theorem rs_itsL {Q : List D → Prop} (q : Q ds) : Rs (itemsL (.lst ds)) Q E := q
theorem rs_itsT {Q : List D → Prop} (q : Q ds) : Rs (itemsT (.tup ds)) Q E := q
theorem rs_itsS {Q : List D → Prop} (q : Q (a.map fun n => .str (Sg [n]))) : Rs (itemsS (.str (Sg a))) Q E := q
theorem rs_enL {Q : List D → Prop} (q : Q (numd 0 ds)) : Rs (enumL (.lst ds)) Q E := q
theorem rs_enT {Q : List D → Prop} (q : Q (numd 0 ds)) : Rs (enumT (.tup ds)) Q E := q
theorem rs_enS {Q : List D → Prop} (q : Q (numd 0 (a.map fun n => .str (Sg [n])))) : Rs (enumS (.str (Sg a))) Q E := q
theorem rs_isi {T n : String} {b : Bool} (h1 : tyN d = some n) (h2 : kitB n T = some b) (q : Q (.bl b)) : Rs (isiD T d) Q E := by unfold isiD; rw [h1]; dsimp only; rw [h2]; exact q
end
section
variable {N B C : Rho → Prop} {R : D → Prop} {E : Rho → Str → List Str → List D → Prop} {r : Rho} {f f1 f2 fi : Rho → Res D} {fs : Rho → Res (List D)} {t : Rho → Res Bool} {d : D} {F K : Rho → SR} {i j : Nat}
theorem Ss.imp {N' B' C' : Rho → Prop} {R' : D → Prop} {E' : Rho → Str → List Str → List D → Prop} {o : SR} (h : Ss o N R B C E) (hn : ∀ r, N r → N' r) (hr : ∀ d, R d → R' d) (hb : ∀ r, B r → B' r) (hc : ∀ r, C r → C' r) (he : ∀ r n ns vs, E r n ns vs → E' r n ns vs) : Ss o N' R' B' C' E' := by
  cases o with
  | nx r => exact hn _ h
  | rt d => exact hr _ h
  | bk r => exact hb _ h
  | ct r => exact hc _ h
  | er r n ns vs => exact he _ _ _ _ h
  | bad => exact h
theorem ss_nx (h : N r) : Ss (.nx r) N R B C E := h
theorem ss_bk (h : B r) : Ss (.bk r) N R B C E := h
theorem ss_ct (h : C r) : Ss (.ct r) N R B C E := h
theorem ss_lift {α : Type} {x : Res α} {k : α → SR} (h : Rs x (fun a => Ss (k a) N R B C E) (E r)) : Ss (liftS r x k) N R B C E := by
  cases x with
  | ok a => exact h
  | err n ns vs => exact h
  | bad => exact h
theorem ss_seq (h : Ss (F r) (fun r' => Ss (K r') N R B C E) R B C E) : Ss (seqF F K r) N R B C E := by
  unfold seqF
  cases e : F r with
  | nx r' => rw [e] at h; exact h
  | rt d => rw [e] at h; exact h
  | bk r => rw [e] at h; exact h
  | ct r => rw [e] at h; exact h
  | er r n ns vs => rw [e] at h; exact h
  | bad => rw [e] at h; exact h
theorem ss_set (h : Rs (f r) (fun d => N (r.set i (some d))) (E r)) : Ss (setF i f r) N R B C E := ss_lift h
theorem ss_ret (h : Rs (f r) R (E r)) : Ss (retF f r) N R B C E := ss_lift h
theorem ss_drop (h : Rs (f r) (fun _ => N r) (E r)) : Ss (dropF f r) N R B C E := ss_lift h
theorem ss_if (h : Rs (t r) (fun b => (b = true → Ss (F r) N R B C E) ∧ (b = false → Ss (K r) N R B C E)) (E r)) : Ss (ifF t F K r) N R B C E := ss_lift (h.impE (fun b q => by
  cases b
  · exact q.2 rfl
  · exact q.1 rfl) fun _ _ _ z => z)
theorem ss_app {ds : List D} (h1 : r[i]? = some (some (.lst ds))) (h : Rs (f r) (fun d => ds.length < sizeLine ∧ N (r.set i (some (.lst (ds ++ [d]))))) (E r)) : Ss (appF i f r) N R B C E := by
  unfold appF
  refine ss_lift (Rs.of (a := ds) (by unfold ownL; rw [h1]) (ss_lift (h.impE (fun d q => ?_) fun _ _ _ z => z)))
  rw [guardS_pos q.1]; exact q.2
theorem ss_asg {tg : D → Rho → Res Rho} (h : Rs (f r) (fun d => ∃ r', tg d r = .ok r' ∧ N r') (E r)) : Ss (asgF tg f r) N R B C E := ss_lift (h.impE (fun d q => by
  obtain ⟨r', e, q⟩ := q
  rw [e]; exact q) fun _ _ _ z => z)
theorem ss_par (h : Rs (f1 r) (fun d => Rs (f2 r) (fun e => N ((r.set i (some d)).set j (some e))) (E r)) (E r)) : Ss (parF i j f1 f2 r) N R B C E := ss_lift (rs_cons (h.impE (fun d q => rs_cons (q.impE (fun e q => rs_nil q) fun _ _ _ z => z)) fun _ _ _ z => z))
theorem ss_aug {g : D → D → Res D} (h : Rs (dVar i r) (fun x => Rs (f r) (fun y => Rs (g x y) (fun z => N (r.set i (some z))) (E r)) (E r)) (E r)) : Ss (augF i g f r) N R B C E := ss_lift (h.impE (fun x q => ss_lift (q.impE (fun y q => ss_lift q) fun _ _ _ z => z)) fun _ _ _ z => z)
theorem rs_ints {g : Int → Int → Int} {Q : D → Prop} {E : Str → List Str → List D → Prop} {i j : Int} (q : Q (.int (g i j))) : Rs (intsD g (.int i) (.int j)) Q E := q
theorem ss_raise {n : Str} {ns : List Str} {rev : Bool} (h : Rs (fs r) (fun ds => ds.length = ns.length ∧ E r n ns (if rev then ds.reverse else ds)) (E r)) : Ss (raiF n ns rev fs r) N R B C E := ss_lift (h.impE (fun ds q => by
  rw [if_pos q.1]; exact q.2) fun _ _ _ z => z)
theorem ss_fst {n fl : Str} {ns : List Str} {vs : List D} (h : Rs (f r) (fun d => r[i]? = some (some (.obj n ns vs)) ∧ ns.length < 1000 ∧ N (r.set i (some (.obj n (putN fl d ns vs).1 (putN fl d ns vs).2)))) (E r)) : Ss (fstF i n fl f r) N R B C E := ss_lift (h.impE (fun d q => by
  rw [q.1]
  show Ss (if n = n ∧ ns.length < 1000 then _ else _) N R B C E
  rw [if_pos ⟨rfl, q.2.1⟩]; exact q.2.2) fun _ _ _ z => z)
theorem ss_cut {N' : Rho → Prop} {o : SR} (M : Rho → Prop) (h : Ss o M R B C E) (k : ∀ r, M r → N' r) : Ss o N' R B C E := h.imp k (fun _ z => z) (fun _ z => z) (fun _ z => z) fun _ _ _ _ z => z
theorem ss_loop {tg : D → Rho → Res Rho} (I : Nat → Rho → Prop) : ∀ (ds : List D) (k : Nat) (r : Rho), I k r →
    (∀ i d r, ds[i]? = some d → I (k + i) r → ∃ r1, tg d r = .ok r1 ∧ Ss (F r1) (I (k + i + 1)) R N (I (k + i + 1)) E) → (∀ r, I (k + ds.length) r → N r) → Ss (loopF tg F ds r) N R B C E
  | [], k, r, h0, _, he => he r h0
  | d :: ds, k, r, h0, hs, he => by
    obtain ⟨r1, e1, h1⟩ := hs 0 d r rfl h0
    have go : ∀ r2, I (k + 1) r2 → Ss (loopF tg F ds r2) N R B C E := fun r2 h2 => ss_loop I ds (k + 1) r2 h2 (fun i d r h hi => by
      have z := hs (i + 1) d r (by simpa using h) (by rw [show k + (i + 1) = k + 1 + i from by omega]; exact hi)
      rw [show k + (i + 1) = k + 1 + i from by omega] at z
      exact z) fun r h => he r (by rw [List.length_cons, show k + (ds.length + 1) = k + 1 + ds.length from by omega]; exact h)
    rw [loopF, e1]
    dsimp only
    cases e : F r1 with
    | nx r2 => rw [e] at h1; exact go r2 h1
    | ct r2 => rw [e] at h1; exact go r2 h1
    | bk r2 => rw [e] at h1; exact h1
    | rt d => rw [e] at h1; exact h1
    | er r n ns vs => rw [e] at h1; exact h1
    | bad => rw [e] at h1; exact h1
/-- a for, by an invariant at each number of items -/
theorem ss_for {its : Rho → Res (List D)} {tg : D → Rho → Res Rho} (I : Nat → Rho → Prop) (h : Rs (its r) (fun ds => I 0 r ∧ (∀ i d r, ds[i]? = some d → I i r → ∃ r1, tg d r = .ok r1 ∧ Ss (F r1) (I (i + 1)) R N (I (i + 1)) E) ∧ ∀ r, I ds.length r → N r) (E r)) : Ss (forF its tg F r) N R B C E :=
  ss_lift (h.impE (fun ds q => ss_loop I ds 0 r q.1 (fun i d r h1 h2 => by
    have z := q.2.1 i d r h1 (by rw [Nat.zero_add] at h2; exact h2)
    rw [Nat.zero_add]; exact z) fun r h => q.2.2 r (by rw [Nat.zero_add] at h; exact h)) fun _ _ _ z => z)
theorem rngL_get {a : Int} {n i : Nat} {d : D} (h : (rngL a n)[i]? = some d) : i < n ∧ d = .int (a + (i : Int)) := by
  unfold rngL at h
  rw [List.getElem?_map] at h
  by_cases hi : i < n
  · rw [List.getElem?_range hi] at h
    cases h
    exact ⟨hi, rfl⟩
  · rw [List.getElem?_eq_none (by simp; omega)] at h
    cases h
theorem rngL_len (a : Int) (n : Nat) : (rngL a n).length = n := by unfold rngL; simp
/-- for k in range(n) -/
theorem ss_rng {m : Nat} (n : Nat) (I : Nat → Rho → Prop) (h : Rs (f r) (fun d => d = .int (n : Int)) (E r)) (hn : n < 4611686018427387904) (h0 : I 0 r) (hs : ∀ i r, i < n → I i r → Ss (F (r.set m (some (.int (i : Int))))) (I (i + 1)) R N (I (i + 1)) E) (he : ∀ r, I n r → N r) : Ss (forF (dIts rng1 (dCons f dNil)) (tgN m) F r) N R B C E :=
  ss_for I (rs_its (rs_cons (h.impE (fun d q => by
    subst q
    refine rs_nil (rs_rng1 hn ⟨h0, fun i d r h1 h2 => ?_, fun r h => he r (by rw [rngL_len] at h; exact h)⟩)
    obtain ⟨h3, rfl⟩ := rngL_get h1
    exact ⟨_, rfl, by rw [Int.zero_add]; exact hs i r h3 h2⟩) fun _ _ _ z => z)))
/-- for x in xs -/
theorem ss_each {α : Type} {m : Nat} (g : α → D) (xs : List α) (I : Nat → Rho → Prop) (h : Rs (f r) (fun d => d = .lst (xs.map g)) (E r)) (h0 : I 0 r) (hs : ∀ i x r, xs[i]? = some x → I i r → Ss (F (r.set m (some (g x)))) (I (i + 1)) R N (I (i + 1)) E) (he : ∀ r, I xs.length r → N r) : Ss (forF (dIt itemsL f) (tgN m) F r) N R B C E :=
  ss_for I (rs_it (h.impE (fun d q => by
    subst q
    refine rs_itsL ⟨h0, fun i d r h1 h2 => ?_, fun r h => he r (by rw [List.length_map] at h; exact h)⟩
    rw [List.getElem?_map] at h1
    cases hx : xs[i]? with
    | none => rw [hx] at h1; cases h1
    | some x => rw [hx] at h1; cases h1; exact ⟨_, rfl, hs i x r hx h2⟩) fun _ _ _ z => z))
end
section
variable {Q : D → Prop} {E : Str → List Str → List D → Prop} {r : Rho} {f : Rho → Res D} {its : Rho → Res (List D)} {tg : D → Rho → Res Rho} {tt : Rho → Res Bool} {fe : Rho → Res D} {vs : List Nat}
theorem lc_mapX {α : Type} (c g : α → D) {rw : Rho} : ∀ xs : List α, (∀ x ∈ xs, ∃ r1, tg (c x) rw = .ok r1 ∧ tt r1 = .ok true ∧ Rs (fe r1) (fun e => e = g x) nE) → lcLoop tg tt fe rw (xs.map c) = .ok (xs.map g)
  | [], _ => rfl
  | x :: xs, h => by
    obtain ⟨r1, h1, h2, h3⟩ := h x (by simp)
    rw [List.map_cons, lcLoop, h1]
    dsimp only
    rw [h2]
    dsimp only
    rw [h3.eq]
    dsimp only
    rw [lc_mapX c g xs fun y hy => h y (by simp [hy])]
    rfl
theorem lc_fltX {α : Type} (c g : α → D) (p : α → Bool) {rw : Rho} : ∀ xs : List α, (∀ x ∈ xs, ∃ r1, tg (c x) rw = .ok r1 ∧ Rs (tt r1) (fun b => b = p x) nE ∧ (p x = true → Rs (fe r1) (fun e => e = g x) nE)) → lcLoop tg tt fe rw (xs.map c) = .ok ((xs.filter p).map g)
  | [], _ => rfl
  | x :: xs, h => by
    obtain ⟨r1, h1, h2, h3⟩ := h x (by simp)
    rw [List.map_cons, lcLoop, h1]
    dsimp only
    rw [h2.eq]
    cases e : p x with
    | true =>
      dsimp only
      rw [(h3 e).eq]
      dsimp only
      rw [lc_fltX c g p xs fun y hy => h y (by simp [hy]), List.filter_cons_of_pos e]
      rfl
    | false =>
      dsimp only
      rw [lc_fltX c g p xs fun y hy => h y (by simp [hy]), List.filter_cons_of_neg (by rw [e]; decide)]
theorem rs_lc {α : Type} (c g : α → D) (xs : List α) (hi : Rs (its r) (fun ds => ds = xs.map c) E) (hl : xs.length ≤ sizeLine) (hs : ∀ x ∈ xs, ∃ r1, tg (c x) (wipeR r vs) = .ok r1 ∧ tt r1 = .ok true ∧ Rs (fe r1) (fun e => e = g x) nE) (q : Q (.lst (xs.map g))) : Rs (dLc its tg tt fe vs r) Q E :=
  Rs.bind (hi.impE (fun ds e => by
    subst e
    refine rs_guard (by rw [List.length_map]; exact hl) ?_
    rw [lc_mapX c g xs hs]; exact q) fun _ _ _ z => z)
theorem rs_lcF {α : Type} (c g : α → D) (p : α → Bool) (xs : List α) (hi : Rs (its r) (fun ds => ds = xs.map c) E) (hl : xs.length ≤ sizeLine) (hs : ∀ x ∈ xs, ∃ r1, tg (c x) (wipeR r vs) = .ok r1 ∧ Rs (tt r1) (fun b => b = p x) nE ∧ (p x = true → Rs (fe r1) (fun e => e = g x) nE)) (q : Q (.lst ((xs.filter p).map g))) : Rs (dLc its tg tt fe vs r) Q E :=
  Rs.bind (hi.impE (fun ds e => by
    subst e
    refine rs_guard (by rw [List.length_map]; exact hl) ?_
    rw [lc_fltX c g p xs hs]; exact q) fun _ _ _ z => z)
theorem rng0_map (n : Nat) : rngL 0 n = (List.range n).map fun (i : Nat) => D.int (i : Int) := by
  unfold rngL
  refine List.map_congr_left fun k _ => ?_
  rw [Int.zero_add]
/-- range(n) as the items of a comprehension -/
theorem rs_rngC {n : Nat} (h : Rs (f r) (fun d => d = .int (n : Int)) E) (hn : n < 4611686018427387904) : Rs (dIts rng1 (dCons f dNil) r) (fun ds => ds = (List.range n).map fun (i : Nat) => D.int (i : Int)) E :=
  rs_its (rs_cons (h.impE (fun d q => by subst q; exact rs_nil (rs_rng1 hn (rng0_map n))) fun _ _ _ z => z))
theorem rs_run {n : Nat} {F : Rho → SR} {as : List D} (h : Ss (F (startR n as)) (fun _ => Q .non) Q nR nR (fun _ => E)) : Rs (runF n false F as) Q E := by
  unfold runF
  cases e : F (startR n as) with
  | nx r => rw [e] at h; exact h
  | rt d => rw [e] at h; exact h
  | bk r => rw [e] at h; exact h.elim
  | ct r => rw [e] at h; exact h.elim
  | er r n ns vs => rw [e] at h; exact h
  | bad => rw [e] at h; exact h.elim
theorem rs_runI {n : Nat} {cls : Str} {F : Rho → SR} {as : List D} (h : Ss (F (startI n cls as)) (fun r => ∃ d, r[0]? = some (some d) ∧ Q d) (fun _ => False) nR nR (fun _ => E)) : Rs (runI n cls F as) Q E := by
  unfold runI
  cases e : F (startI n cls as) with
  | nx r => rw [e] at h; obtain ⟨d, h1, h2⟩ := h; dsimp only; rw [h1]; exact h2
  | rt d => rw [e] at h; exact h.elim
  | bk r => rw [e] at h; exact h.elim
  | ct r => rw [e] at h; exact h.elim
  | er r n ns vs => rw [e] at h; exact h
  | bad => rw [e] at h; exact h.elim
/-- a try -/
theorem ss_try {isM : Str → Option Bool} {i : Nat} {Fb Fs : Rho → SR} {N B C : Rho → Prop} {R : D → Prop} {E : Rho → Str → List Str → List D → Prop} (h : Ss (Fb r) N R B C fun r' n ns vs => isM n = some true ∧ Ss (Fs (r'.set i (some (.obj n ns vs)))) (fun r => N (r.set i none)) R (fun r => B (r.set i none)) (fun r => C (r.set i none)) nE') : Ss (tryF isM i Fb Fs r) N R B C E := by
  unfold tryF
  cases e : Fb r with
  | nx r => rw [e] at h; exact h
  | rt d => rw [e] at h; exact h
  | bk r => rw [e] at h; exact h
  | ct r => rw [e] at h; exact h
  | bad => rw [e] at h; exact h
  | er r' n ns vs =>
    rw [e] at h
    obtain ⟨h1, h2⟩ := h
    dsimp only
    rw [h1]
    dsimp only
    cases e2 : Fs (r'.set i (some (.obj n ns vs))) with
    | nx r => rw [e2] at h2; exact h2
    | rt d => rw [e2] at h2; exact h2
    | bk r => rw [e2] at h2; exact h2
    | ct r => rw [e2] at h2; exact h2
    | bad => rw [e2] at h2; exact h2
    | er r n ns vs => rw [e2] at h2; exact h2.elim
end
end Dx
namespace Dx
open PySem L2
theorem sz5 : (100000 : Nat) ≤ sizeLine := by decide
theorem small_of {i : Int} (h : -1000000000000 < i) (h' : i < 1000000000000) : smallI i := by unfold smallI; omega
def Fit : List Int → List Int → Prop
  | [], [] => True
  | v :: vs, l :: ls => 0 ≤ v ∧ v < l ∧ Fit vs ls
  | _, _ => False
theorem Fit.cons {vs : List Int} {l : Int} {ls : List Int} (h : Fit vs (l :: ls)) : ∃ v us, vs = v :: us ∧ 0 ≤ v ∧ v < l ∧ Fit us ls := by
  cases vs with
  | nil => exact h.elim
  | cons v us => exact ⟨v, us, rfl, h⟩
theorem Fit.nil {vs : List Int} (h : Fit vs []) : vs = [] := by
  cases vs with
  | nil => rfl
  | cons v us => exact h.elim
theorem Fit.len : ∀ {vs ls : List Int}, Fit vs ls → vs.length = ls.length
  | [], [], _ => rfl
  | v :: vs, l :: ls, h => by simp [Fit.len h.2.2]
  | [], _ :: _, h => h.elim
  | _ :: _, [], h => h.elim
theorem Fit.snoc : ∀ {vs ls : List Int} {v l : Int}, Fit vs ls → 0 ≤ v → v < l → Fit (vs ++ [v]) (ls ++ [l])
  | [], [], v, l, _, h1, h2 => ⟨h1, h2, trivial⟩
  | a :: vs, b :: ls, v, l, h, h1, h2 => ⟨h.1, h.2.1, Fit.snoc h.2.2 h1 h2⟩
  | [], _ :: _, _, _, h, _, _ => h.elim
  | _ :: _, [], _, _, h, _, _ => h.elim
theorem Fit.get : ∀ {vs ls : List Int} {k : Nat} {l : Int}, Fit vs ls → ls[k]? = some l → ∃ v, vs[k]? = some v ∧ 0 ≤ v ∧ v < l
  | [], [], _, _, _, h => by simp at h
  | v :: vs, l :: ls, 0, l', h, e => by simp at e; subst e; exact ⟨v, by simp, h.1, h.2.1⟩
  | v :: vs, l :: ls, k + 1, l', h, e => by
    obtain ⟨w, h1, h2⟩ := Fit.get (k := k) h.2.2 (by simpa using e)
    exact ⟨w, by simpa using h1, h2⟩
  | [], _ :: _, _, _, h, _ => h.elim
  | _ :: _, [], _, _, h, _ => h.elim
abbrev iL (ns : List Int) : D := .lst (ns.map D.int)
theorem take_snoc {α : Type} {xs : List α} {i : Nat} {x : α} (h : xs[i]? = some x) : xs.take (i + 1) = xs.take i ++ [x] := by
  rw [List.take_add_one, h]; rfl
end Dx
end S_DxM
section S_DxN
set_option Elab.async false
set_option linter.all false
set_option maxRecDepth 100000
namespace Dx
open PySem L2
def endB (a b : List Nat) : Bool := decide (b.length ≤ a.length) && decide (a.drop (a.length - b.length) = b)
def startB (a b : List Nat) : Bool := decide (b.length ≤ a.length) && decide (a.take b.length = b)
theorem beq_dec (a b : List Nat) : (a == b) = decide (a = b) := by
  by_cases h : a = b
  · subst h; simp
  · simp [h]
theorem end_ST (a b : List Nat) : Txt.endswith (Sg a) (Sg b) = endB a b := by
  unfold Txt.endswith endB
  rw [PySem.StrLaws.subAt_eq, ST_len, ST_len, Nat.zero_add]
  show (decide (b.length ≤ a.length) && ((a.drop (a.length - b.length)).take b.length == b)) = _
  by_cases h : b.length ≤ a.length
  · rw [List.take_of_length_le (by rw [List.length_drop]; omega), beq_dec]
  · rw [decide_eq_false h]; rfl
theorem start_ST (a b : List Nat) : Txt.startswith (Sg a) (Sg b) = startB a b := by
  unfold Txt.startswith startB
  rw [PySem.StrLaws.subAt_eq, ST_len, ST_len, Nat.zero_add]
  show (decide (b.length ≤ a.length) && ((a.drop 0).take b.length == b)) = _
  rw [List.drop_zero, beq_dec]
/-- split at one sign -/
abbrev spc (c : Nat) (a : List Nat) : List (List Nat) := TL.spl [c] 0 [] a
theorem split_ST (a : List Nat) (c : Nat) (hc : c < 256) : Txt.split (Sg a) (Sg [c]) = (spc c a).map Sg := by
  refine TL.map_tl_inj ?_
  rw [TL.split_spl _ _ (by show [c] ≠ []; simp) (TL.kind_ok (by show #[c].all _ = true; simp [hc])), List.map_map]
  show spc c a = _
  rw [show TL.tl ∘ Sg = id from rfl, List.map_id]
theorem pre1 (c x : Nat) (r : List Nat) : TL.pre [c] (x :: r) = decide (x = c) := by
  unfold TL.pre
  show ([x] == [c]) = _
  rw [beq_dec]
  by_cases h : x = c
  · subst h; simp
  · simp [h]
theorem spl_cons (c x : Nat) (acc r : List Nat) : TL.spl [c] 0 acc (x :: r) = if x = c then acc :: TL.spl [c] 0 [] r else TL.spl [c] 0 (acc ++ [x]) r := by
  by_cases h : x = c
  · rw [if_pos h, TL.spl_hit (by rw [pre1]; exact decide_eq_true h)]; rfl
  · rw [if_neg h, TL.spl_miss (by rw [pre1]; exact decide_eq_false h)]
theorem spl_pref (c : Nat) : ∀ (a acc r : List Nat), c ∉ a → TL.spl [c] 0 acc (a ++ r) = TL.spl [c] 0 (acc ++ a) r
  | [], acc, r, _ => by simp
  | x :: a, acc, r, h => by
    have hx : x ≠ c := fun e => h (by simp [e])
    rw [List.cons_append, spl_cons, if_neg hx, spl_pref c a _ r fun z => h (by simp [z])]
    simp
theorem spc_none {c : Nat} {a : List Nat} (ha : c ∉ a) : spc c a = [a] := by
  have := spl_pref c a [] [] ha
  rw [List.append_nil, TL.spl_nil] at this
  exact this
theorem allStr_map {α : Type} (g : α → List Nat) : ∀ xs : List α, allStr (xs.map fun x => .str (Sg (g x))) = some (xs.map fun x => Sg (g x))
  | [] => rfl
  | x :: xs => by rw [List.map_cons, allStr, allStr_map g xs]; rfl
theorem joinL_nil : ∀ xs : List (List Nat), TL.joinL [] xs = xs.flatten
  | [] => rfl
  | [a] => by simp [TL.joinL]
  | a :: b :: r => by rw [TL.joinL, List.nil_append, joinL_nil (b :: r)]; rfl
theorem join_ST (s : List Nat) (xs : List (List Nat)) : Txt.join (Sg s) (xs.map Sg) = Sg (TL.joinL s xs) := by
  rw [TL.join_eq]
  refine TL.ext_tl ?_
  rw [TL.tl_join, List.map_map, show TL.tl ∘ Sg = id from rfl, List.map_id]
section
variable {Q : D → Prop} {E : Str → List Str → List D → Prop} {a b : List Nat}
theorem rs_end (q : Q (.bl (endB a b))) : Rs (endD (.str (Sg a)) (.str (Sg b))) Q E := by
  show Q (.bl (Txt.endswith (Sg a) (Sg b)))
  rw [end_ST]; exact q
theorem rs_start (q : Q (.bl (startB a b))) : Rs (startD (.str (Sg a)) (.str (Sg b))) Q E := by
  show Q (.bl (Txt.startswith (Sg a) (Sg b)))
  rw [start_ST]; exact q
theorem rs_split {c : Nat} (h : c < 256 ∧ a.length + 2 ≤ sizeLine) (q : Q (.lst ((spc c a).map fun l => .str (Sg l)))) : Rs (splitD (.str (Sg a)) (.str (Sg [c]))) Q E := by
  refine rs_guard ⟨rfl, by rw [ST_len]; exact h.2⟩ ?_
  show Q (.lst (strsD (Txt.split (Sg a) (Sg [c]))))
  rw [split_ST a c h.1]
  unfold strsD
  rw [List.map_map]; exact q
theorem rs_joinS {α : Type} {g : α → List Nat} {xs : List α} (h : (xs.map fun x => (g x).length).sum ≤ 16777216) (q : Q (.str (Sg (xs.map g).flatten))) : Rs (joinD (.str (Sg [])) (.lst (xs.map fun x => .str (Sg (g x))))) Q E := by
  show Rs (joinZ (Sg []) (allStr (xs.map fun x => .str (Sg (g x))))) Q E
  rw [allStr_map]
  refine rs_guard ?_ ?_
  · rw [List.map_map]
    simp only [ST_len, Function.comp_def, List.length_nil, Nat.mul_zero, Nat.add_zero]
    exact h
  · have := join_ST [] (xs.map g)
    rw [List.map_map, joinL_nil] at this
    show Q (.str (Txt.join (Sg []) (xs.map (Sg ∘ g))))
    rw [this]; exact q
theorem rs_joinC {ns : List Nat} (h : ns.length ≤ 16777216) (q : Q (.str (Sg ns))) : Rs (joinD (.str (Sg [])) (.lst (ns.map fun n => .str (Sg [n])))) Q E := by
  refine rs_joinS (g := fun n => [n]) ?_ ?_
  · have : ∀ l : List Nat, (l.map fun n => ([n] : List Nat).length).sum = l.length := fun l => by
      induction l with
      | nil => rfl
      | cons a l ih => rw [List.map_cons, List.sum_cons, ih, List.length_cons]; simp; omega
    rw [this]; exact h
  · have : ∀ l : List Nat, (l.map fun n => ([n] : List Nat)).flatten = l := fun l => by
      induction l with
      | nil => rfl
      | cons a l ih => rw [List.map_cons, List.flatten_cons, ih]; rfl
    rw [this]; exact q
end
section
variable {Q : D → Prop} {E : Str → List Str → List D → Prop}
theorem rs_isi_non_bool  (q : Q (.bl false)) : Rs (isiD "bool" .non) Q E := rs_isi rfl (by decide +kernel) q
theorem rs_isi_non_int  (q : Q (.bl false)) : Rs (isiD "int" .non) Q E := rs_isi rfl (by decide +kernel) q
theorem rs_isi_non_str  (q : Q (.bl false)) : Rs (isiD "str" .non) Q E := rs_isi rfl (by decide +kernel) q
theorem rs_isi_non_tuple  (q : Q (.bl false)) : Rs (isiD "tuple" .non) Q E := rs_isi rfl (by decide +kernel) q
theorem rs_isi_non_list  (q : Q (.bl false)) : Rs (isiD "list" .non) Q E := rs_isi rfl (by decide +kernel) q
theorem rs_isi_bl_bool {x : Bool} (q : Q (.bl true)) : Rs (isiD "bool" (.bl x)) Q E := rs_isi rfl (by decide +kernel) q
theorem rs_isi_bl_int {x : Bool} (q : Q (.bl true)) : Rs (isiD "int" (.bl x)) Q E := rs_isi rfl (by decide +kernel) q
theorem rs_isi_bl_str {x : Bool} (q : Q (.bl false)) : Rs (isiD "str" (.bl x)) Q E := rs_isi rfl (by decide +kernel) q
theorem rs_isi_bl_tuple {x : Bool} (q : Q (.bl false)) : Rs (isiD "tuple" (.bl x)) Q E := rs_isi rfl (by decide +kernel) q
theorem rs_isi_bl_list {x : Bool} (q : Q (.bl false)) : Rs (isiD "list" (.bl x)) Q E := rs_isi rfl (by decide +kernel) q
theorem rs_isi_int_bool {x : Int} (q : Q (.bl false)) : Rs (isiD "bool" (.int x)) Q E := rs_isi rfl (by decide +kernel) q
theorem rs_isi_int_int {x : Int} (q : Q (.bl true)) : Rs (isiD "int" (.int x)) Q E := rs_isi rfl (by decide +kernel) q
theorem rs_isi_int_str {x : Int} (q : Q (.bl false)) : Rs (isiD "str" (.int x)) Q E := rs_isi rfl (by decide +kernel) q
theorem rs_isi_int_tuple {x : Int} (q : Q (.bl false)) : Rs (isiD "tuple" (.int x)) Q E := rs_isi rfl (by decide +kernel) q
theorem rs_isi_int_list {x : Int} (q : Q (.bl false)) : Rs (isiD "list" (.int x)) Q E := rs_isi rfl (by decide +kernel) q
theorem rs_isi_str_bool {x : Str} (q : Q (.bl false)) : Rs (isiD "bool" (.str x)) Q E := rs_isi rfl (by decide +kernel) q
theorem rs_isi_str_int {x : Str} (q : Q (.bl false)) : Rs (isiD "int" (.str x)) Q E := rs_isi rfl (by decide +kernel) q
theorem rs_isi_str_str {x : Str} (q : Q (.bl true)) : Rs (isiD "str" (.str x)) Q E := rs_isi rfl (by decide +kernel) q
theorem rs_isi_str_tuple {x : Str} (q : Q (.bl false)) : Rs (isiD "tuple" (.str x)) Q E := rs_isi rfl (by decide +kernel) q
theorem rs_isi_str_list {x : Str} (q : Q (.bl false)) : Rs (isiD "list" (.str x)) Q E := rs_isi rfl (by decide +kernel) q
theorem rs_isi_lst_bool {x : List D} (q : Q (.bl false)) : Rs (isiD "bool" (.lst x)) Q E := rs_isi rfl (by decide +kernel) q
theorem rs_isi_lst_int {x : List D} (q : Q (.bl false)) : Rs (isiD "int" (.lst x)) Q E := rs_isi rfl (by decide +kernel) q
theorem rs_isi_lst_str {x : List D} (q : Q (.bl false)) : Rs (isiD "str" (.lst x)) Q E := rs_isi rfl (by decide +kernel) q
theorem rs_isi_lst_tuple {x : List D} (q : Q (.bl false)) : Rs (isiD "tuple" (.lst x)) Q E := rs_isi rfl (by decide +kernel) q
theorem rs_isi_lst_list {x : List D} (q : Q (.bl true)) : Rs (isiD "list" (.lst x)) Q E := rs_isi rfl (by decide +kernel) q
theorem rs_isi_tup_bool {x : List D} (q : Q (.bl false)) : Rs (isiD "bool" (.tup x)) Q E := rs_isi rfl (by decide +kernel) q
theorem rs_isi_tup_int {x : List D} (q : Q (.bl false)) : Rs (isiD "int" (.tup x)) Q E := rs_isi rfl (by decide +kernel) q
theorem rs_isi_tup_str {x : List D} (q : Q (.bl false)) : Rs (isiD "str" (.tup x)) Q E := rs_isi rfl (by decide +kernel) q
theorem rs_isi_tup_tuple {x : List D} (q : Q (.bl true)) : Rs (isiD "tuple" (.tup x)) Q E := rs_isi rfl (by decide +kernel) q
theorem rs_isi_tup_list {x : List D} (q : Q (.bl false)) : Rs (isiD "list" (.tup x)) Q E := rs_isi rfl (by decide +kernel) q
end
theorem cut_take {α : Type} (a : List α) (k : Nat) : cutL a none (some (k : Int)) = a.take k := by
  unfold cutL
  rw [HT.sIx_none, HT.sIx_nat, List.drop_zero, Nat.sub_zero]
  by_cases h : k ≤ a.length
  · rw [Nat.min_eq_left h]
  · rw [Nat.min_eq_right (by omega), List.take_length, List.take_of_length_le (by omega)]
theorem cut_drop {α : Type} (a : List α) (k : Nat) : cutL a (some (k : Int)) none = a.drop k := by
  unfold cutL
  rw [HT.sIx_none, HT.sIx_nat]
  by_cases h : k ≤ a.length
  · rw [Nat.min_eq_left h, List.take_of_length_le (by rw [List.length_drop]; omega)]
  · rw [Nat.min_eq_right (by omega), Nat.sub_self, List.take_zero, List.drop_of_length_le (by omega)]
theorem cut_mid {α : Type} (a : List α) (j k : Nat) : cutL a (some (j : Int)) (some (k : Int)) = (a.take k).drop j := by
  unfold cutL
  rw [HT.sIx_nat, HT.sIx_nat, List.drop_take]
  by_cases h2 : j ≤ a.length
  · rw [Nat.min_eq_left h2]
    by_cases h : k ≤ a.length
    · rw [Nat.min_eq_left h]
    · rw [Nat.min_eq_right (by omega), List.take_of_length_le (by rw [List.length_drop]; omega), List.take_of_length_le (by rw [List.length_drop]; omega)]
  · rw [List.drop_of_length_le (show a.length ≤ j by omega), List.drop_of_length_le (by omega)]
    simp
theorem cut_len {α : Type} (a : List α) (lo hi : Option Int) : (cutL a lo hi).length ≤ a.length := by
  unfold cutL
  rw [List.length_take, List.length_drop]; omega
end Dx
end S_DxN
section S_DxQ
set_option Elab.async false
set_option linter.all false
set_option maxRecDepth 100000
namespace Dx
open PySem L2
section
variable {Q : D → Prop} {E : Str → List Str → List D → Prop} {r : Rho} {f f1 : Rho → Res D} {fs : Rho → Res (List D)} {n fl gl : Str} {ns : List Str} {vs ds es : List D} {F : List D → Res D} {x d : D}
theorem rs_star {Q : List D → Prop} (h : Rs (f r) (fun d => Rs (items d) (fun xs => Rs (fs r) (fun ys => Q (xs ++ ys)) E) E) E) : Rs (dStar f fs r) Q E := Rs.bind (h.impE (fun a q => Rs.bind (q.impE (fun _ q => Rs.bind q) fun _ _ _ z => z)) fun _ _ _ z => z)
theorem rs_itemsL {Q : List D → Prop} (q : Q ds) : Rs (items (.lst ds)) Q E := q
theorem rs_itemsT {Q : List D → Prop} (q : Q ds) : Rs (items (.tup ds)) Q E := q
theorem rs_zipL {Q : List D → Prop} (q : Q (pairs ds es)) : Rs (zipL [.lst ds, .lst es]) Q E := q
theorem rs_zipS {a b : List Nat} {Q : List D → Prop} (q : Q (pairs (a.map fun n => .str (Sg [n])) (b.map fun n => .str (Sg [n])))) : Rs (zipS [.str (Sg a), .str (Sg b)]) Q E := q
theorem isCls_self : isCls n (.obj n ns vs) = true := by unfold isCls; exact decide_eq_true rfl
theorem rs_lenO {i : Int} (hF : F [.obj n ns vs] = .ok (.int i)) (hi : 0 ≤ i ∧ i < 2 ^ 63) (q : Q (.int i)) : Rs (g1 (lenO n F) [.obj n ns vs]) Q E := by
  show Rs (lenO n F (.obj n ns vs)) Q E
  unfold lenO
  rw [if_pos isCls_self, hF]
  exact rs_guard hi q
theorem rs_binO {ns' : List Str} {vs' : List D} (hF : F [.obj n ns vs, .obj n ns' vs'] = .ok d) (q : Q d) : Rs (binO n F (.obj n ns vs) (.obj n ns' vs')) Q E := by
  unfold binO
  rw [if_pos ⟨isCls_self, isCls_self⟩, hF]
  exact q
end
end Dx
end S_DxQ
section S_DxR
set_option Elab.async false
set_option linter.all false
set_option maxRecDepth 100000
set_option maxHeartbeats 2000000
namespace Dx
open PySem L2 ItX
open PyProof.Rows hiding St
def tyAll : List String := ["NoneType", "bool", "int", "str", "list", "tuple", "dict"]
structure IsC (K : PySem.W.Frag) (C : Addr) : Prop where
  cl : Cls K C
  ha : PySem.W.findIn K (.ref C) "__class__" = some (some (.builtin "object.__class__"))
  hn : PySem.W.specialIn K (.builtin "object.__class__") "__get__" = some (some (.builtin "getset_descriptor.__get__"))
  tk : PySem.W.takesIn K (.builtin "object.__class__") = some true
  hm : PySem.W.mroIn K C (.type "object") = some true
  self : PySem.W.kitOne K (.ref C) (.ref C) = some true
  no : ∀ t ∈ tyAll, PySem.W.kitOne K (.type t) (.ref C) = some false
theorem tyN_all {d : D} {t : String} (h : tyN d = some t) : t ∈ tyAll := by
  cases d <;> cases h <;> decide
def isiO (n : Str) (d : D) : Res D := if isCls n d = true then .ok (.bl true) else match tyN d with
  | some _ => .ok (.bl false)
  | none => .bad
section
variable {X : Cx} {c : Cf} {L G G' : List Ow} {f f1 f2 : Rho → Res D} {e o a b : Expr} {es : List Expr} {pos apos p : Pos} {fs : Rho → Res (List D)} {n : Str} {C : Addr} {F : List D → Res D} {rm : Bool} {k : Nat} {fa : Addr} {fd : FuncData} {ps : List Str}
theorem ty_ins {H : Hp} {q dx : Addr} {gs : List (Str × V)} (ic : IsC X.K C) (h : H q = some (.ins C dx gs)) : TyX X.K H (.ref q) (.ref C) := .base (.ins h ic.cl ic.ha ic.hn ic.tk ic.hm)
theorem de_isO {x : Str} {pT : Pos} (hcn : c.cm n = some C) (ic : IsC X.K C) (hm : X.mg "isinstance" = none) (hg : Gl X "isinstance") (gC : Gl X x) (mC : X.mg x = some (.ref C)) (ha : PE X e (tR c G f)) (hK : c.K = X.K := by rfl) (hd : (x == ("__debug__" : Str)) = false := by decide)
    (hs1 : starEach [e, .Name x pT] X.env = (false, eval e X.env) :: starEach [.Name x pT] X.env := by rfl) (hs2 : starEach [.Name x pT] X.env = (false, eval (.Name x pT) X.env) :: starEach [] X.env := by rfl) (hpl : (backTo pos (starEach [.Name x pT] X.env)).any (·.1) = false := by rfl) :
    PE X (.Call (.Name "isinstance" p) [e, .Name x pT] [] pos) (tV c G (dUn (isiO n) f)) := by
  have hT : PE X (.Name x pT) (tC (.ref C)) := pe_glob gC mC rfl hd
  refine pe_imp (pe_callB call_isi hg hm (by decide +kernel) (pa_cons ha (pa_cons hT pa_nil hs2) hs1) (he := hs1) (hpl := hpl)) fun σ H Q ⟨S0, H0, S, r, ok, p⟩ => rd_seq ok p fun d v S1 H1 w1 o1 m1 p1 => ?_
  unfold isiO at p1
  split at p1
  · rename_i hc
    obtain ⟨q, dx, gs, rfl, h2⟩ := of_isCls o1.ex hcn hc m1
    exact ⟨.ref q, .ref C, .ref C, .ref C, true, rfl, .own C, ty_ins ic h2, ic.self, p1.go o1.ex _ (.bl _)⟩
  · split at p1
    · rename_i t ht
      exact ⟨v, .ref C, .type t, .ref C, false, rfl, .own C, by rw [← hK]; exact RpB.ty m1 o1.ex ht, ic.no t (tyN_all ht), p1.go o1.ex _ (.bl _)⟩
    · exact p1.elim
def rCmpV (K : PySem.W.Frag) (C : Addr) (sp : Sp) : R2 := fun x y H Q => ∃ q dx gs t, x = V.ref q ∧ H q = some (.ins C dx gs) ∧ TyX K H y t ∧ PySem.W.notFirst K C t = true ∧ sp [x, y] H Q noX
theorem op_cmpV {op : CmpOp} {sp : Sp} (hop : ∀ a b, compareOp op a b = richCompare op a b) (hm : L2.Meth X.K C (cmpInfo op).2.1 fa) (F1 : FnOk X.prog X.w X.K X.mg X.base (L2.CX X.prog X.w) k fa fd ps sp) (hr : Room k X.A) (hb : L2.Binds X.K fd ps []) : OpR X (compareOp op) (rCmpV X.K C sp) := by
  intro pins s σ H x y v u Q I rx ry h
  obtain ⟨a, dx, gs, t, rfl, ha, ty, hn, q⟩ := h
  cases rx
  obtain ⟨ox, od, J, _⟩ := ins_at I ha
  obtain ⟨P, kx, hp, _⟩ := kit_of I ry ty
  obtain ⟨m, hF⟩ := I.fr
  rw [hop]
  refine PySem.W.cmp_K (op := op) (tb := t) hr.units0 hF I.ok.mod.kin J (kx.ty _ _ I.kIn hp) hn hm.at_ hm.fn (wpAny_mono (run_calm (us := [.ref a, u]) (vs := [.ref a, y]) F1 hr I.env0 hb I (.cons rfl (.cons ry .nil)) q) (fun w s' z => ?_) fun _ _ x => x)
  obtain ⟨z', H', I', rz, qz⟩ := z
  exact SlX.cmpback rz ⟨z', H', I', rz, qz⟩
def cmpV (n : Str) (F : List D → Res D) (x d : D) : Res D := if isCls n x = true then (if isCls n d = true ∨ (tyN d).isSome = true then (match F [x, d] with
  | .ok a => .ok a
  | _ => .bad) else .bad) else .bad
theorem os_cmpV (hcn : c.cm n = some C) (ic : IsC X.K C) (n1 : PySem.W.notFirst X.K C (.ref C) = true) (n2 : ∀ t ∈ tyAll, PySem.W.notFirst X.K C (.type t) = true) (hK : c.K = X.K := by rfl) : OpS c (mR c rm) (rCmpV X.K C (spD c.K c.cm [true, true] rm F)) (cmpV n F) := by
  intro σ S H x y d e Q ex hx hy p
  unfold cmpV at p
  split at p
  · rename_i hc
    obtain ⟨a, dx, gs, rfl, h2⟩ := of_isCls ex hcn hc hx
    split at p
    · rename_i hd
      split at p
      · rename_i r hF
        have fin := calm_sp (c := c) (rm := rm) (ms := [true, true]) (vs := [.ref a, y]) (ds := [d, e]) (Q := Q) ex ⟨hx, hy, trivial⟩ hF fun S' H' v w hb => p S' H' w v hb
        rcases hd with hd | hd
        · obtain ⟨b, dy, gs', rfl, h3⟩ := of_isCls ex hcn hd hy
          exact ⟨a, dx, gs, .ref C, rfl, h2, ty_ins ic h3, n1, fin⟩
        · obtain ⟨t, ht⟩ := Option.isSome_iff_exists.mp hd
          exact ⟨a, dx, gs, .type t, rfl, h2, by rw [← hK]; exact RpB.ty hy ex ht, n2 t (tyN_all ht), fin⟩
      · exact p.elim
    · exact p.elim
  · exact p.elim
def dProp (n : Str) (F : List D → Res D) (f : Rho → Res D) : Rho → Res D := fun r => (f r).bind fun x => if isCls n x = true then (match F [x] with
  | .ok a => .ok a
  | _ => .bad) else .bad
theorem de_prop {fl : Str} {pa : Addr} (hcn : c.cm n = some C) (cl : Cls X.K C) (hp : PropOf X.K C fl pa fa) (F1 : FnOk X.prog X.w X.K X.mg X.base (L2.CX X.prog X.w) k fa fd ps (spD c.K c.cm [true] rm F)) (hr : Room (k + 1) X.A) (hb : L2.Binds X.K fd ps []) (he : PE X e (tR c G f))
    (hab : attributeBase e fl X.env (eval e X.env) = eval e X.env := by rfl) : PE X (.Attribute e fl pos) (rd c G (dProp n F f) (mR c rm)) :=
  pe_imp (pe_prop (dvs := []) (ds := []) (E := noX) he cl hp F1 hr hb .nil (fun _ _ _ _ _ _ _ h => (cx_never h).elim) hab) fun σ H Q ⟨S0, H0, S, r, ok, p⟩ => rd_seq ok p fun x v S1 H1 w1 o1 m1 p1 => by
    split at p1
    · rename_i hc
      obtain ⟨a, dx, gs, rfl, h2⟩ := of_isCls o1.ex hcn hc m1
      split at p1
      · rename_i z hF
        have p2 := p1.anti w1.h
        exact ⟨a, dx, gs, rfl, h2, calm_sp (ds := [x]) o1.ex ⟨m1, trivial⟩ hF fun S' H' b w hb => p2 S' H' w b hb⟩
      · exact p1.elim
    · exact p1.elim
def isBD (neg : Bool) : D → D → Res D
  | .bl x, .bl y => .ok (.bl (if neg then !decide (x = y) else decide (x = y)))
  | _, _ => .bad
theorem os_notB : OpS c (mV c) rNotB (isBD true) := by
  intro σ S H x y d e Q ex hx hy p
  unfold isBD at p
  split at p
  · cases hx.bl; cases hy.bl
    exact ⟨_, _, rfl, rfl, p.here ex (.bl _)⟩
  · exact p.elim
def keyD : D → Option Key
  | .int i => some (.inl i)
  | .str z => some (.inr z)
  | _ => none
def keyOf : Key → D
  | .inl i => .int i
  | .inr z => .str z
def getK {κ : Type} [DecidableEq κ] : List κ → List D → κ → Option D
  | k :: ks, v :: vs, x => if k = x then some v else getK ks vs x
  | _, _, _ => none
def putV {κ : Type} [DecidableEq κ] (ks : List κ) (vs : List D) (x : κ) (d : D) : List κ × List D := if (ks.any fun k => decide (k = x)) = true then (ks, List.zipWith (fun k v => if k = x then d else v) ks vs) else (ks ++ [x], vs ++ [d])
/-- {} -/
def dD0 : Rho → Res D := fun _ => .ok (.dk [] [])
/-- k in d -/
def inK (neg : Bool) : D → D → Res D
  | k, .dk ks vs => match keyD k with
    | some x => .ok (.bl (if neg then !(getK ks vs x).isSome else (getK ks vs x).isSome))
    | none => .bad
  | _, _ => .bad
/-- list(d), len(d) -/
def listK : D → Res D
  | .dk ks _ => .ok (.lst (ks.map keyOf))
  | _ => .bad
def lenK : D → Res D
  | .dk ks _ => .ok (.int ks.length)
  | .dt ks _ => .ok (.int ks.length)
  | _ => .bad
/-- d[k] = v, d an own dict -/
def ownK (i : Nat) (r : Rho) : Res (List Key × List D) := match r[i]? with
  | some (some (.dk ks vs)) => .ok (ks, vs)
  | _ => .bad
def asK (d : D) : Res Key := match keyD d with
  | some k => .ok k
  | none => .bad
noncomputable def putF (i : Nat) (fk f : Rho → Res D) : Rho → SR := fun r => liftS r (f r) fun d => liftS r (ownK i r) fun o => liftS r (fk r) fun k => liftS r (asK k) fun x => guardS (o.1.length < sizeLine) (.nx (r.set i (some (.dk (putV o.1 o.2 x d).1 (putV o.1 o.2 x d).2))))
end
end Dx
end S_DxR
section S_DxI
set_option Elab.async false
set_option linter.all false
set_option maxRecDepth 100000
set_option maxHeartbeats 2000000
namespace Dx
open PySem L2 ItX PyProof.Rows
section
variable {X : Cx} {c : Cf} {L G G' : List Ow} {a b e : Expr} {pos : Pos} {f f1 f2 : Rho → Res D} {k : Nat}
def keysD : List D → Option (List Key)
  | [] => some []
  | d :: ds => match keyD d, keysD ds with
    | some k, some ks => some (k :: ks)
    | _, _ => none
def keyT : D → Option (List Key)
  | .tup ds => keysD ds
  | _ => none
def tupOf (ks : List Key) : D := .tup (ks.map keyOf)
/-- a tuple of the heap becomes one that stays -/
theorem Fwd.tup {S H : Hp} (e : Ex S H) {q : Addr} {xs : List V} (h : H q = some (.tup xs)) : ∃ S', Fwd S H S' H ∧ S' q = some (.tup xs) := by
  cases hs : S q with
  | some o =>
    have := e _ _ hs
    rw [h] at this
    cases this
    exact ⟨S, Fwd.refl e, hs⟩
  | none =>
    refine ⟨upd S q (.tup xs), ⟨Ex.new hs, Ex.refl, fun a u ha => ?_, fun a u ha m => ?_⟩, upd_same⟩
    · by_cases hh : a = q
      · subst hh; rw [upd_same] at ha; rw [h]; exact ha
      · rw [upd_ne hh] at ha; exact e a u ha
    · by_cases hh : a = q
      · subst hh; exact .inr ⟨xs, h⟩
      · rw [upd_ne hh, m] at ha; cases ha
def itemsK : D → Res (List D)
  | .dt ks _ => .ok (ks.map tupOf)
  | .dk ks _ => .ok (ks.map keyOf)
  | _ => .bad
variable {tg : Expr}
end
end Dx
end S_DxI
section S_DxJ
set_option Elab.async false
set_option linter.all false
set_option maxRecDepth 100000
set_option maxHeartbeats 2000000
namespace Dx
open PySem L2 ItX PyProof.Rows
theorem tyAll_of {p : String → Prop} (h1 : p "NoneType") (h2 : p "bool") (h3 : p "int") (h4 : p "str") (h5 : p "list") (h6 : p "tuple") (h7 : p "dict") : ∀ t ∈ tyAll, p t := fun t ht => by
  simp only [tyAll, List.mem_cons, List.not_mem_nil, or_false] at ht
  rcases ht with rfl | rfl | rfl | rfl | rfl | rfl | rfl <;> assumption
/-- a def of the text, whatever its defaults are -/
structure FunE (K : PySem.W.Frag) (x qual : Str) (st : Stmt) (f : Addr) (fd : FuncData) : Prop where
  ex : ∃ (oc : Value) (od : Option Addr) (dV kV doc pm : Value) (an : Option Addr) (cdv ct : Value) (osl : Array (Option Value)),
    fd = PySem.W.fnOf x qual (defArgs st) (defBody st) (defScope st) dV kV doc pm an cdv ct ∧ K.lookup f = some ⟨oc, od, .func fd, osl⟩ ∧ PySem.W.codeIn K cdv qual = true
  kp : PySem.W.keepIn K (.ref f) = true
section
variable {P : Program} {w : World} {K : PySem.W.Frag} {mg : Str → Option Value} {base : Heap} {cm : CM}
theorem FunE.okX {x qual : Str} {st : Stmt} {f : Addr} {fd : FuncData} {N ps : List Str} {k : Nat} {sp : Sp} (F : FunE K x qual st f fd) (S : FnScope N ps (defScope st)) (len : ∀ vs H Q E, sp vs H Q E → vs.length = ps.length)
    (hbody : ∀ (cdv : Value) (A : Around) (outer : List Env) (s : Shared) (H : Hp) (vs : List V) (Q : VK) (E : XK), Room k (A.deeper (envOfC qual (defScope st) s.heap.objs.size f cdv)) → sp vs H Q E →
      ∃ t, PSs (cxOf (L2.CX P w) P w K mg base N qual (defScope st) f cdv A outer s H E) (defBody st) t ∧ t { nx := fun _ H' => Q .non H', rt := Q } (start N vs) H) : FnOk P w K mg base (L2.CX P w) (k + 1) f fd ps sp := by
  obtain ⟨oc, od, dV, kV, doc, pm, an, cdv, ct, osl, rfl, lk, hcd⟩ := F.ex
  exact fn_of lk hcd S len fun A outer s H vs Q E hr hsp => hbody cdv A outer s H vs Q E hr hsp
end
end Dx
end S_DxJ
section S_DxH
set_option Elab.async false
set_option linter.all false
set_option maxRecDepth 100000
set_option maxHeartbeats 4000000
namespace Dx
open PySem L2 PyProof.Rows Srt SrtO
end Dx
end S_DxH
section S_DxL
set_option Elab.async false
set_option linter.all false
set_option maxRecDepth 100000
set_option maxHeartbeats 4000000
namespace Dx
open PySem L2
end Dx
end S_DxL
section S_DxK
set_option Elab.async false
set_option linter.all false
set_option maxRecDepth 100000
set_option maxHeartbeats 2000000
namespace Dx
open PySem L2 PyProof.Rows ClX
end Dx
namespace Dx
open PySem L2
end Dx
end S_DxK
section S_DxAA
set_option Elab.async false
set_option linter.all false
set_option maxRecDepth 100000
set_option maxHeartbeats 2000000
namespace Dx
open PySem L2
section
variable {X : Cx} {c : Cf} {L G G' : List Ow} {f f1 f2 : Rho → Res D} {a b e : Expr} {pos : Pos} {tg : Expr}
def insI (p : Int) : List Int → List Int
  | [] => [p]
  | x :: xs => if x < p then x :: insI p xs else p :: x :: xs
def sortI : List Int → List Int
  | [] => []
  | x :: xs => insI x (sortI xs)
def sortID : D → Res D
  | .lst ds => match allInt ds with
    | some is => .ok (.lst ((sortI is).map D.int))
    | none => .bad
  | _ => .bad
end
section
variable {Q : D → Prop} {E : Str → List Str → List D → Prop} {i j s : Int}
theorem allInt_map : ∀ ns : List Int, allInt (ns.map D.int) = some ns
  | [] => rfl
  | n :: ns => by rw [List.map_cons, allInt, allInt_map ns]
theorem rs_sortI {ns : List Int} (q : Q (.lst ((sortI ns).map D.int))) : Rs (g1 sortID [.lst (ns.map D.int)]) Q E := by
  show Rs (match allInt (ns.map D.int) with | some is => Res.ok (.lst ((sortI is).map D.int)) | none => .bad) Q E
  rw [allInt_map]; exact q
theorem rs_g2 {g : Int → Int → Int} (q : Q (.int (g i j))) : Rs (g2 (intsD g) [.int i, .int j]) Q E := q
theorem rs_sum {ns : List Int} (q : Q (.int ns.sum)) : Rs (g1 sumD [.lst (ns.map D.int)]) Q E := by
  show Rs (match allInt (ns.map D.int) with | some is => Res.ok (.int is.sum) | none => .bad) Q E
  rw [allInt_map]; exact q
end
end Dx
end S_DxAA
section S_DxAB
set_option Elab.async false
set_option linter.all false
set_option maxRecDepth 100000
set_option maxHeartbeats 4000000
namespace Dx
open PySem L2 PyProof.Rows Srt SrtO
end Dx
end S_DxAB
section S_DxAC
set_option Elab.async false
set_option linter.all false
set_option maxRecDepth 100000
set_option maxHeartbeats 4000000
namespace Dx
open PySem L2
section
variable {X : Cx} {c : Cf} {L G G' G'' : List Ow} {f f1 f2 : Rho → Res D} {a b e e2 e3 : Expr} {pos : Pos} {tg : Expr} {k : Nat}
def getE (d k e : D) : Res D := match d with
  | .dk ks vs => match keyD k with
    | some x => .ok ((getK ks vs x).getD e)
    | none => .bad
  | .dt ks vs => match keyT k with
    | some x => .ok ((getK ks vs x).getD e)
    | none => .bad
  | _ => .bad
abbrev FP := (Rho → Res D) × (Rho → Res D)
def dPairs : List FP → Rho → Res (List (D × D))
  | [], _ => .ok []
  | p :: ps, r => (p.1 r).bind fun k => (p.2 r).bind fun d => (dPairs ps r).bind fun kvs => .ok ((k, d) :: kvs)
def RpPs (c : Cf) (S : Hp) : List (V × V) → List (D × D) → Prop
  | [], [] => True
  | v :: vs, d :: ds => Rp c.K c.cm S v.1 d.1 ∧ Rp c.K c.cm S v.2 d.2 ∧ RpPs c S vs ds
  | _, _ => False
def mergeD : List Key → List D → List (D × D) → Res D
  | ks, vs, [] => .ok (.dk ks vs)
  | ks, vs, (k, d) :: kvs => match keyD k with
    | some x => mergeD (putV ks vs x d).1 (putV ks vs x d).2 kvs
    | none => .bad
def dDisp (ps : List FP) : Rho → Res D := fun r => (dPairs ps r).bind fun kvs => mergeD [] [] kvs
theorem RpPs.len {S : Hp} : ∀ {vs : List (V × V)} {ds : List (D × D)}, RpPs c S vs ds → vs.length = ds.length
  | [], [], _ => rfl
  | v :: vs, d :: ds, h => by simp [RpPs.len h.2.2]
  | [], _ :: _, h => h.elim
  | _ :: _, [], h => h.elim
def allBl : List D → Option (List Bool)
  | [] => some []
  | .bl b :: ds => match allBl ds with
    | some bs => some (b :: bs)
    | none => none
  | _ => none
def allD : D → Res D
  | .lst ds => match allBl ds with
    | some bs => .ok (.bl (bs.all id))
    | none => .bad
  | _ => .bad
def inKt (neg : Bool) (d e : D) : Res D := match e with
  | .kt ds => match inFlat d ds with
    | some b => .ok (.bl (if neg then !b else b))
    | none => .bad
  | _ => .bad
def parF3 (i j l : Nat) (f1 f2 f3 : Rho → Res D) : Rho → SR := fun r => liftS r (dCons f1 (dCons f2 (dCons f3 dNil)) r) fun ds => match ds with
  | [d, e, g] => .nx (((r.set i (some d)).set j (some e)).set l (some g))
  | _ => .bad
end
section
variable {Q : D → Prop} {E : Str → List Str → List D → Prop} {r : Rho} {f f1 f2 f3 : Rho → Res D} {d k e : D}
theorem allBl_map : ∀ bs : List Bool, allBl (bs.map D.bl) = some bs
  | [] => rfl
  | b :: bs => by rw [List.map_cons, allBl, allBl_map bs]
theorem rs_all {bs : List Bool} (q : Q (.bl (bs.all id))) : Rs (g1 allD [.lst (bs.map D.bl)]) Q E := by
  show Rs (match allBl (bs.map D.bl) with | some bs => Res.ok (.bl (bs.all id)) | none => .bad) Q E
  rw [allBl_map]; exact q
end
section
variable {N B C : Rho → Prop} {R : D → Prop} {E : Rho → Str → List Str → List D → Prop} {r : Rho} {f f1 f2 f3 : Rho → Res D} {i j l : Nat}
theorem ss_par3 (h : Rs (f1 r) (fun d => Rs (f2 r) (fun e => Rs (f3 r) (fun g => N (((r.set i (some d)).set j (some e)).set l (some g))) (E r)) (E r)) (E r)) : Ss (parF3 i j l f1 f2 f3 r) N R B C E :=
  ss_lift (rs_cons (h.impE (fun d q => rs_cons (q.impE (fun e q => rs_cons (q.impE (fun g q => rs_nil q) fun _ _ _ z => z)) fun _ _ _ z => z)) fun _ _ _ z => z))
end
end Dx
end S_DxAC
section S_DxAD
set_option Elab.async false
set_option linter.all false
set_option maxRecDepth 100000
set_option maxHeartbeats 2000000
namespace Dx
open PySem L2
section
variable {X : Cx} {c : Cf} {G : List Ow} {pos : Pos}
theorem de_strL {x y : Str} {j : Nat} (h : x = y) : PE X (.Constant (.str x) j pos) (tV c G (dC (.str y))) := by subst h; exact de_str
theorem rp_lit {K : PySem.W.Frag} {cm : CM} {S : Hp} {x y : Str} (h : x = y) : Rp K cm S (.str x) (.str y) := by subst h; exact .str _
end
theorem log_small {i : Int} (h : 0 ≤ i) (h1 : i < 1000000000000) : i.natAbs.log2 < 1920 := by
  by_cases h0 : i.natAbs = 0
  · rw [h0]; decide
  · have : i.natAbs < 2 ^ 40 := by omega
    have := (Nat.log2_lt h0).mpr this
    omega
theorem num_ST {i : Int} (h : 0 ≤ i) : (toString i : Str) = Sg (TL.numL i.toNat) := by
  have e : i = ((i.toNat : Nat) : Int) := by omega
  refine TL.ext_tl ?_
  have := TL.tl_num i.toNat
  rw [← e] at this
  exact this
theorem lt_one {a b : Nat} : ([a] < [b]) ↔ a < b := by
  constructor
  · intro h
    cases h with
    | rel h => exact h
    | cons h => cases h
  · intro h; exact List.Lex.rel h
section
variable {Q : D → Prop} {E : Str → List Str → List D → Prop} {i j : Int} {a b l : List Nat} {r : Rho} {f : Rho → Res D} {g : Str → Rho → Res D} {acc : List Nat} {d : D}
theorem rs_strI (h : 0 ≤ i ∧ i < 1000000000000) (q : Q (.str (Sg (TL.numL i.toNat)))) : Rs (g1 strD [.int i]) Q E :=
  rs_guard (log_small h.1 h.2) (by show Q (.str (toString i)); rw [num_ST h.1]; exact q)
theorem rs_fmtI (h : 0 ≤ i ∧ i < 1000000000000) (q : Q (.str (Sg (TL.numL i.toNat)))) : Rs (fmtD (.int i)) Q E :=
  rs_guard (log_small h.1 h.2) (by show Q (.str (toString i)); rw [num_ST h.1]; exact q)
theorem rs_fmtS (h : a.length ≤ sizeLine) (q : Q (.str (Sg a))) : Rs (fmtD (.str (Sg a))) Q E := rs_guard (by rw [ST_len]; exact h) q
theorem rs_jnil (q : Q (.str (Sg acc))) : Rs (dJnil (Sg acc) r) Q E := q
theorem rs_jcons (h : Rs (f r) (fun d => Rs (asS d) (fun y => ∃ l, y = Sg l ∧ acc.length + l.length ≤ 100000 ∧ Rs (g (Sg (acc ++ l)) r) Q E) E) E) : Rs (dJcons f g (Sg acc) r) Q E :=
  Rs.bind (h.impE (fun d q => Rs.bind (q.impE (fun y q => by
    obtain ⟨l, rfl, h1, h2⟩ := q
    rw [ST_app]
    exact rs_guard (by rw [ST_len, List.length_append]; exact Nat.le_trans h1 sz5) h2) fun _ _ _ z => z)) fun _ _ _ z => z)
theorem rs_asSJ {l : List Nat} (h : acc.length + l.length ≤ 100000) (k : Rs (g (Sg (acc ++ l)) r) Q E) : Rs (asS (.str (Sg l))) (fun y => ∃ l, y = Sg l ∧ acc.length + l.length ≤ 100000 ∧ Rs (g (Sg (acc ++ l)) r) Q E) E := ⟨l, rfl, h, k⟩
theorem rs_dJoin (h : Rs (g (Sg []) r) Q E) : Rs (dJoin g r) Q E := h
theorem rs_ord {n : Nat} (q : Q (.int n)) : Rs (g1 ordX [.str (Sg [n])]) Q E := rs_guard (by rw [ST_len]; rfl) q
theorem rs_leS {m n : Nat} (q : Q (.bl (decide (m ≤ n)))) : Rs (leD (.str (Sg [m])) (.str (Sg [n]))) Q E := by
  show Q (.bl (!decide ([n] < [m])))
  rw [show (!decide ([n] < [m])) = decide (m ≤ n) from by
    rw [Bool.eq_iff_iff]
    simp only [Bool.not_eq_true', decide_eq_false_iff_not, decide_eq_true_eq, lt_one]
    omega]
  exact q
theorem inFlat_ints (i : Int) (ns : List Int) : inFlat (.int i) (ns.map D.int) = some (decide (i ∈ ns)) := by
  have e : flatDs (ns.map D.int) = some (ns.map V.int) := by
    induction ns with
    | nil => rfl
    | cons n ns ih => rw [List.map_cons, flatDs, ih]; rfl
  unfold inFlat
  rw [e]
  show some (inV (V.int i) (ns.map V.int)) = _
  congr 1
  induction ns with
  | nil => rfl
  | cons n ns ih =>
    have e : flatDs (ns.map D.int) = some (ns.map V.int) := by
      clear ih e
      induction ns with
      | nil => rfl
      | cons n ns ih => rw [List.map_cons, flatDs, ih]; rfl
    have ih := ih e
    unfold inV at ih ⊢
    rw [List.map_cons, List.any_cons, ih]
    show (decide (n = i) || decide (i ∈ ns)) = _
    by_cases h : n = i
    · subst h; simp
    · have h' : ¬ i = n := fun z => h z.symm
      simp [h, h']
theorem rs_inKI {neg : Bool} {ns : List Int} (q : Q (.bl (if neg then !decide (i ∈ ns) else decide (i ∈ ns)))) : Rs (inKt neg (.int i) (.kt (ns.map D.int))) Q E := by
  show Rs (match inFlat (.int i) (ns.map D.int) with | some b => Res.ok (D.bl (if neg then !b else b)) | none => .bad) Q E
  rw [inFlat_ints]; exact q
theorem rs_inI {ns : List Int} (q : Q (.bl (decide (i ∈ ns)))) : Rs (inD (.int i) (.lst (ns.map D.int))) Q E := by
  show Rs ((inLst (.int i) (ns.map D.int)).bind _) Q E
  unfold inLst
  rw [inFlat_ints]; exact q
theorem rs_ninI {ns : List Int} (q : Q (.bl (!decide (i ∈ ns)))) : Rs (ninD (.int i) (.lst (ns.map D.int))) Q E := by
  show Rs ((inLst (.int i) (ns.map D.int)).bind _) Q E
  unfold inLst
  rw [inFlat_ints]; exact q
end
theorem at_pos {α : Type} {xs : List α} {j : Int} {x : α} (h0 : 0 ≤ j) (h : xs[j.toNat]? = some x) : atI xs j = some x := by
  obtain ⟨n, rfl⟩ := Int.eq_ofNat_of_zero_le h0
  exact atI_nat h
abbrev TD := List (List Nat × D)
def kS (a : List Nat) : Key := .inr (Sg a)
theorem kS_inj {a b : List Nat} : kS a = kS b ↔ a = b := ⟨fun h => by injection h with h; exact ST_inj.mp h, fun h => by rw [h]⟩
def dkT (T : TD) : D := .dk (T.map fun p => kS p.1) (T.map (·.2))
def lk (T : TD) (a : List Nat) : Option D := (T.find? fun p => decide (p.1 = a)).map (·.2)
theorem lk_cons (p : List Nat × D) (T : TD) (a : List Nat) : lk (p :: T) a = if p.1 = a then some p.2 else lk T a := by
  unfold lk
  rw [List.find?_cons]
  by_cases h : p.1 = a
  · rw [if_pos h, decide_eq_true h]; rfl
  · rw [if_neg h, decide_eq_false h]
theorem getK_T (T : TD) (a : List Nat) : getK (T.map fun p => kS p.1) (T.map (·.2)) (kS a) = lk T a := by
  induction T with
  | nil => rfl
  | cons p T ih =>
    rw [List.map_cons, List.map_cons, getK, ih, lk_cons]
    by_cases h : p.1 = a
    · rw [if_pos (kS_inj.mpr h), if_pos h]
    · rw [if_neg (fun z => h (kS_inj.mp z)), if_neg h]
theorem lk_isSome {T : TD} {a : List Nat} : (lk T a).isSome = decide (a ∈ T.map (·.1)) := by
  induction T with
  | nil => rfl
  | cons p T ih =>
    rw [lk_cons, List.map_cons]
    by_cases h : p.1 = a
    · rw [if_pos h]; simp [h]
    · have h' : ¬ a = p.1 := fun z => h z.symm
      rw [if_neg h, ih]; simp [h']
section
variable {Q : D → Prop} {E : Str → List Str → List D → Prop} {T : TD} {a : List Nat} {d e : D} {r : Rho}
theorem rs_inTk {neg : Bool} (q : Q (.bl (if neg then !decide (a ∈ T.map (·.1)) else decide (a ∈ T.map (·.1))))) : Rs (inK neg (.str (Sg a)) (dkT T)) Q E := by
  show Q (.bl (if neg then !(getK (T.map fun p => kS p.1) (T.map (·.2)) (kS a)).isSome else (getK (T.map fun p => kS p.1) (T.map (·.2)) (kS a)).isSome))
  rw [getK_T, lk_isSome]; exact q
theorem rs_getET (q : Q ((lk T a).getD e)) : Rs (getE (dkT T) (.str (Sg a)) e) Q E := by
  show Q ((getK (T.map fun p => kS p.1) (T.map (·.2)) (kS a)).getD e)
  rw [getK_T]; exact q
theorem rs_dD0 (q : Q (dkT [])) : Rs (dD0 r) Q E := q
theorem rs_listTk (q : Q (.lst (T.map fun p => .str (Sg p.1)))) : Rs (g1 listK [dkT T]) Q E := by
  show Q (.lst ((T.map fun p => kS p.1).map keyOf))
  rw [List.map_map]; exact q
theorem rs_lenTk (q : Q (.int T.length)) : Rs (g1 lenK [dkT T]) Q E := by
  show Q (.int (T.map fun p => kS p.1).length)
  rw [List.length_map]; exact q
theorem rs_itTk {Q : List D → Prop} (q : Q (T.map fun p => .str (Sg p.1))) : Rs (itemsK (dkT T)) Q E := by
  show Q ((T.map fun p => kS p.1).map keyOf)
  rw [List.map_map]; exact q
end
section
variable {Q : D → Prop} {E : Str → List Str → List D → Prop} {r : Rho} {fk fv : Rho → Res D} {ps : List FP}
theorem rs_disp (h : Rs (dPairs ps r) (fun kvs => Rs (mergeD [] [] kvs) Q E) E) : Rs (dDisp ps r) Q E := Rs.bind h
theorem rs_pnil {Q : List (D × D) → Prop} (q : Q []) : Rs (dPairs [] r) Q E := q
theorem rs_pcons {Q : List (D × D) → Prop} (h : Rs (fk r) (fun k => Rs (fv r) (fun d => Rs (dPairs ps r) (fun kvs => Q ((k, d) :: kvs)) E) E) E) : Rs (dPairs ((fk, fv) :: ps) r) Q E :=
  Rs.bind (h.impE (fun k q => Rs.bind (q.impE (fun d q => Rs.bind (q.impE (fun _ z => z) fun _ _ _ z => z)) fun _ _ _ z => z)) fun _ _ _ z => z)
end
section
variable {Q : D → Prop} {E : Str → List Str → List D → Prop} {r : Rho} {i : Nat} {n f : Str} {ns : List Str} {vs : List D} {d : D}
theorem rs_isX {isM : Str → Option Bool} {b : Bool} (h1 : r[i]? = some (some (.obj n ns vs))) (h2 : isM n = some b) (q : Q (.bl b)) : Rs (dIsX isM i r) Q E := by
  unfold dIsX
  rw [h1]
  dsimp only
  rw [h2]
  exact q
theorem rs_xf (h1 : r[i]? = some (some (.obj n ns vs))) (h2 : lookF ns vs f = some d) (q : Q d) : Rs (dXf i f r) Q E := by
  unfold dXf
  rw [h1]
  dsimp only
  rw [h2]
  exact q
end
section
variable {N B C : Rho → Prop} {R : D → Prop} {E : Rho → Str → List Str → List D → Prop} {r : Rho} {t u : Rho → Res Bool} {F K : Rho → SR}
/-- if t or u: F else: K, one test after the other -/
theorem ss_ifo (h : Rs (t r) (fun a => (a = true → Ss (F r) N R B C E) ∧ (a = false → Ss (ifF u F K r) N R B C E)) (E r)) : Ss (ifF (dOr t u) F K r) N R B C E := by
  unfold ifF
  refine ss_lift ?_
  refine rs_orc (h.impE (fun a q => ⟨fun ha => ?_, fun ha => ?_⟩) fun _ _ _ z => z)
  · exact q.1 ha
  · have q := q.2 ha
    unfold ifF at q
    cases hu : u r with
    | ok b => rw [hu] at q; exact q
    | err n ns vs => rw [hu] at q; exact q
    | bad => rw [hu] at q; exact q
theorem ss_ifa (h : Rs (t r) (fun a => (a = true → Ss (ifF u F K r) N R B C E) ∧ (a = false → Ss (K r) N R B C E)) (E r)) : Ss (ifF (dAnd t u) F K r) N R B C E := by
  unfold ifF
  refine ss_lift ?_
  refine rs_andc (h.impE (fun a q => ⟨fun ha => ?_, fun ha => ?_⟩) fun _ _ _ z => z)
  · have q := q.1 ha
    unfold ifF at q
    cases hu : u r with
    | ok b => rw [hu] at q; exact q
    | err n ns vs => rw [hu] at q; exact q
    | bad => rw [hu] at q; exact q
  · exact q.2 ha
end
end Dx
end S_DxAD
section S_DxAE
set_option Elab.async false
set_option linter.all false
set_option maxRecDepth 100000
set_option maxHeartbeats 2000000
namespace Dx
open PySem L2
end Dx
end S_DxAE
section S_DxAF
set_option Elab.async false
set_option linter.all false
set_option maxRecDepth 100000
set_option maxHeartbeats 4000000
namespace Dx
open PySem L2 PySem.Spec PyProof.Rows
end Dx
end S_DxAF
section S_DxAG
set_option Elab.async false
set_option linter.all false
set_option maxRecDepth 100000
set_option maxHeartbeats 4000000
namespace Dx
open PySem L2
end Dx
end S_DxAG
section S_DxAH
set_option Elab.async false
set_option linter.all false
set_option maxRecDepth 100000
set_option maxHeartbeats 2000000
namespace Dx
open PySem L2
end Dx
end S_DxAH
section S_DxAI
set_option Elab.async false
set_option linter.all false
set_option maxRecDepth 100000
set_option maxHeartbeats 2000000
namespace Dx
open PySem PySem.Spec L2 ItX PyProof.Rows
end Dx
end S_DxAI
section S_DxAJ
set_option Elab.async false
set_option linter.all false
set_option maxRecDepth 100000
set_option maxHeartbeats 2000000
namespace Dx
open PySem L2 ItX PyProof.Rows
section
variable {X : Cx} {c : Cf} {L G G' : List Ow} {f f1 : Rho → Res D} {fs gs : Rho → Res (List D)} {e o : Expr} {es : List Expr} {kws : List Keyword} {pos apos p : Pos} {C : Addr}
variable {k n : Nat} {fa : Addr} {fd : FuncData} {ps ks : List Str} {ms ms1 ms2 : List Bool} {rm : Bool} {F : List D → Res D}
theorem RpM.length {S H : Hp} : ∀ {ms : List Bool} {vs : List V} {ds : List D}, RpM c S H ms vs ds → vs.length = ms.length
  | [], vs, ds, h => by cases vs <;> cases ds <;> first | rfl | exact h.elim
  | b :: ms, vs, ds, h => by
    cases vs with
    | nil => cases b <;> cases ds <;> exact h.elim
    | cons v vs => cases ds with
      | nil => cases b <;> exact h.elim
      | cons d ds => cases b <;> exact congrArg Nat.succ (RpM.length h.2)
end
end Dx
end S_DxAJ
section S_DxAK
set_option Elab.async false
set_option linter.all false
set_option maxRecDepth 100000
set_option maxHeartbeats 2000000
namespace Dx
open PySem PySem.Spec L2 ItX PyProof.Rows
end Dx
end S_DxAK
section S_DxAL
set_option Elab.async false
set_option linter.all false
set_option maxRecDepth 100000
set_option maxHeartbeats 2000000
namespace Dx
open PySem PySem.Spec L2 ItX PyProof.Rows
theorem _root_.L2H.RoomH.units {k : Nat} {A : Around} (r : L2H.RoomH k A) : A.units + 64 < cLine := by have := r.un; omega
end Dx
end S_DxAL
section S_DxAM
set_option Elab.async false
set_option linter.all false
set_option maxRecDepth 100000
set_option maxHeartbeats 2000000
namespace Dx
open PySem L2 ItX
end Dx
end S_DxAM
section S_DxAN
set_option Elab.async false
set_option linter.all false
set_option maxRecDepth 100000
set_option maxHeartbeats 2000000
namespace Dx
open PySem L2 ItX
open PyProof.Rows hiding St
end Dx
end S_DxAN
section S_DxAO
set_option Elab.async false
set_option linter.all false
set_option maxRecDepth 100000
set_option maxHeartbeats 2000000
namespace Dx
open PySem L2 ItX
open PyProof.Rows hiding St
def rem (H : Hp) (p : Addr) : Hp := fun a => if a = p then none else H a
theorem rem_ne {H : Hp} {p a : Addr} (h : a ≠ p) : rem H p a = H a := if_neg h
theorem Ex.rem {S H : Hp} {p : Addr} (e : Ex S H) (n : S p = none) : Ex S (rem H p) := fun a o h => by
  have : a ≠ p := fun z => by subst z; rw [n] at h; cases h
  rw [rem_ne this]; exact e a o h
section
variable {c : Cf} {S0 H0 S H S' H' : Hp} {G : List Ow} {σ : St} {r : Rho}
/-- the own object in slot i is given away -/
theorem EnvOk.take (e : EnvOk c S0 H0 G S H σ r) {i : Nat} {d : D} {p : Addr} (k : kd G i = .o) (h : r[i]? = some (some d)) (hs : σ[i]? = some (some (.ref p))) (s3 : S p = none) (s4 : H0 p = none) : EnvOk c S0 H0 (G.set i .v) S (rem H p) σ (r.set i none) := by
  have sl : ∀ {j : Nat} {b : D}, (r.set i none)[j]? = some (some b) → i ≠ j ∧ r[j]? = some (some b) := fun {j b} hb => by
    rcases set_some hb with ⟨_, ea, _⟩ | ⟨ne, hb⟩
    · cases ea
    · exact ⟨ne, hb⟩
  refine ⟨⟨e.fwd.s, e.fwd.h.rem s4, e.fwd.sub.rem s3, e.fwd.new⟩, by rw [List.length_set]; exact e.len, fun j b hb => ?_, fun j l b b' q hj hl kj kl sj sl' => ?_, let ⟨A, hA⟩ := e.sto; ⟨A, ?_⟩⟩
  · obtain ⟨ne, hb⟩ := sl hb
    obtain ⟨v, h1, h2⟩ := e.slot j b hb
    refine ⟨v, h1, ?_⟩
    rw [kd_set_ne ne]
    cases kj : kd G j with
    | o =>
      rw [kj] at h2
      obtain ⟨q, ho, z1, z2, z3, z4, z5⟩ := h2
      subst z1
      have hq : q ≠ p := fun z => by subst z; exact ne (e.sep i j d b q h hb (isO_o k) (isO_o kj) hs h1)
      exact ⟨q, ho, rfl, by rw [rem_ne hq]; exact z2, z3, z4, z5⟩
    | i a =>
      rw [kj] at h2
      obtain ⟨z0, q, ho, z1, z2, z3, z4, z5⟩ := h2
      subst z1
      have hq : q ≠ p := fun z => by subst z; exact ne (e.sep i j d b q h hb (isO_o k) (by rw [kj]; trivial) hs h1)
      exact ⟨z0, q, ho, rfl, by rw [rem_ne hq]; exact z2, z3, z4, z5⟩
    | v => rw [kj] at h2; exact h2
    | b => rw [kj] at h2; exact h2
    | s P => rw [kj] at h2; exact h2
    | w => rw [kj] at h2; exact h2
    | x a C dd => rw [kj] at h2; exact h2
  · obtain ⟨n1, hj⟩ := sl hj
    obtain ⟨n2, hl⟩ := sl hl
    rw [kd_set_ne n1] at kj
    rw [kd_set_ne n2] at kl
    exact e.sep j l b b' q hj hl kj kl sj sl'
  · have np : ∀ a ∈ A, a ≠ p := fun a ha z => hA.own i d p h (isO_o k) hs (z ▸ ha)
    refine hA.sub (fun a ha => (hA.out a ha).1) (fun a ha => rem_ne (np a ha)) Ex.refl (fun j b q hj kj sj => ?_) fun j b kj hj => ?_
    · obtain ⟨n1, hj⟩ := sl hj
      rw [kd_set_ne n1] at kj
      exact hA.own j b q hj kj sj
    · obtain ⟨n1, hj⟩ := sl hj
      rw [kd_set_ne n1]
      exact ⟨rfl, hj, rfl⟩
end
end Dx
end S_DxAO
section S_DxAP
set_option Elab.async false
set_option linter.all false
set_option maxRecDepth 100000
set_option maxHeartbeats 2000000
namespace PySem
end PySem
end S_DxAP
section S_DxAR
set_option Elab.async false
set_option linter.all false
set_option maxRecDepth 100000
set_option maxHeartbeats 2000000
namespace Dx
open PySem L2 ItX
open PyProof.Rows hiding St
end Dx
end S_DxAR
section S_DxAS
set_option Elab.async false
set_option linter.all false
set_option maxRecDepth 100000
set_option maxHeartbeats 2000000
namespace Dx
open PySem L2 ItX
open PyProof.Rows hiding St
end Dx
end S_DxAS
section S_DxAT
set_option Elab.async false
set_option linter.all false
set_option maxRecDepth 100000
set_option maxHeartbeats 2000000
namespace Dx
open PySem L2 ItX
open PyProof.Rows hiding St
end Dx
end S_DxAT
section S_DxAU
set_option Elab.async false
set_option linter.all false
set_option maxRecDepth 100000
set_option maxHeartbeats 2000000
namespace Dx
open PySem L2 ItX
open PyProof.Rows hiding St
end Dx
end S_DxAU
section S_DxAV
set_option Elab.async false
set_option linter.all false
set_option maxRecDepth 100000
set_option maxHeartbeats 2000000
namespace Dx
open PySem L2 ItX
open PyProof.Rows hiding St
end Dx
end S_DxAV
section S_DxAW
set_option Elab.async false
set_option linter.all false
set_option maxRecDepth 100000
set_option maxHeartbeats 2000000
namespace Dx
open PySem L2 HandSPX
open PyProof.Rows hiding St
end Dx
end S_DxAW
section S_DxAX
set_option Elab.async false
set_option linter.all false
set_option maxRecDepth 100000
set_option maxHeartbeats 2000000
namespace Dx
open PySem L2 PySem.Spec
open PyProof.Rows hiding St passOn frameOf
end Dx
end S_DxAX
section S_DxAY
set_option Elab.async false
set_option linter.all false
set_option maxRecDepth 100000
set_option maxHeartbeats 2000000
namespace Dx
open PySem L2
open PyProof.Rows hiding St
end Dx
end S_DxAY
section S_DxAZ
set_option Elab.async false
set_option linter.all false
set_option maxRecDepth 100000
set_option maxHeartbeats 2000000
namespace Dx
open PySem L2
open PyProof.Rows hiding St
section
variable {X : Cx} {c : Cf} {L G G' : List Ow} {σ : St} {S0 H0 S H S' H' : Hp} {r : Rho} {pos : Pos} {e : Expr}
theorem RmA.snoc {A : List Addr} {xs : List V} {row : List D} {v : V} {d : D} (h : RmA c.K c.cm A S xs row) (hv : RmV c.K c.cm A S v d) : RmA c.K c.cm A S (xs ++ [v]) (row ++ [d]) := by
  refine ⟨by rw [List.length_append, List.length_append, h.1]; rfl, fun i u b hu hb => ?_⟩
  by_cases hi : i < row.length
  · rw [List.getElem?_append_left (by rw [h.1]; exact hi)] at hu
    rw [List.getElem?_append_left hi] at hb
    exact h.2 i u b hu hb
  · rw [List.getElem?_append_right (by rw [h.1]; omega), h.1] at hu
    rw [List.getElem?_append_right (by omega)] at hb
    cases hz : i - row.length with
    | zero =>
      rw [hz] at hu hb
      cases hu; cases hb
      exact hv
    | succ n =>
      rw [hz] at hb
      simp at hb
variable {a b : Expr} {f1 f2 : Rho → Res D} {p1 p2 : Pos}
end
end Dx
end S_DxAZ
section S_DxBA
set_option Elab.async false
set_option linter.all false
set_option maxRecDepth 100000
set_option maxHeartbeats 2000000
namespace Dx
open PySem L2
open PyProof.Rows hiding St
end Dx
end S_DxBA
section S_DxBB
set_option Elab.async false
set_option linter.all false
set_option maxRecDepth 100000
set_option maxHeartbeats 2000000
namespace Dx
open PySem L2
open PyProof.Rows hiding St
section
variable {X : Cx} {c : Cf} {L G G' : List Ow} {σ : St} {S0 H0 S H S' H' : Hp} {r : Rho} {pos : Pos} {e : Expr}
theorem RmV.plain {A : List Addr} {v : V} {d : D} (h : RmV c.K c.cm A S v d) (ho : isOwn d = false) : Rp c.K c.cm S v d := by
  rcases h with h | ⟨j, a, e, _⟩
  · exact h
  · subst e; cases ho
end
end Dx
end S_DxBB
section S_DxBC
set_option Elab.async false
set_option linter.all false
set_option maxRecDepth 100000
set_option maxHeartbeats 2000000
namespace Dx
open PySem L2
open PyProof.Rows hiding St
inductive ModR (K : PySem.W.Frag) : List DictEntry → List (Str × D) → Prop
  | nil : ModR K [] []
  | cons {h : Int} {x y : Str} {t : Tok} {u : Value} {r : List DictEntry} {v : V} {d : D} {rows : List (Str × D)} (h0 : x = y) (h2 : RelV v u) (h3 : ∀ (cm : CM) S, Rp K cm S v d) (h4 : ModR K r rows) :
      ModR K (⟨h, .str x t, u⟩ :: r) ((y, d) :: rows)
def lookD : List (Str × D) → Str → Option D
  | [], _ => none
  | (x, d) :: r, z => if x = z then some d else lookD r z
theorem ModR.find {K : PySem.W.Frag} : ∀ {es : List DictEntry} {rows : List (Str × D)}, ModR K es rows → ∀ z : Str,
    (lookD rows z = none ∧ (es.find? fun e => Value.isStrOf z e.key) = none) ∨ ∃ d v e, lookD rows z = some d ∧ (es.find? fun e => Value.isStrOf z e.key) = some e ∧ RelV v e.val ∧ ∀ (cm : CM) S, Rp K cm S v d
  | _, _, .nil, z => .inl ⟨rfl, rfl⟩
  | _, _, .cons (h := h) (x := x) (t := t) (u := u) (r := r) (v := v) (d := d) (rows := rows) h0 h2 h3 h4, z => by
    subst h0
    by_cases e : x = z
    · subst e
      refine .inr ⟨d, v, ⟨h, .str x t, u⟩, by unfold lookD; rw [if_pos rfl], ?_, h2, h3⟩
      rw [List.find?_cons_of_pos]
      show (x == x) = true
      simp
    · have q : (List.find? (fun e => Value.isStrOf z e.key) ((⟨h, .str x t, u⟩ : DictEntry) :: r)) = List.find? (fun e => Value.isStrOf z e.key) r := List.find?_cons_of_neg (by
        show ¬ (x == z) = true
        intro w
        exact e (eq_of_beq w))
      rw [q]
      have q2 : lookD ((x, d) :: rows) z = lookD rows z := by
        show (if x = z then some d else lookD rows z) = _
        rw [if_neg e]
      rw [q2]
      exact h4.find z
def ModD (K : PySem.W.Frag) (w : World) (a : Addr) (rows : List (Str × D)) : Prop := ∃ es n, KDict K w a es n ∧ ModR K es.toList rows
theorem ModD.mk {K : PySem.W.Frag} {w : World} {a : Addr} {es : List DictEntry} {n : Nat} {rows : List (Str × D)} (h1 : K.lookup a = some ⟨.type "dict", none, .dict es.toArray n, #[]⟩) (h2 : PySem.W.KeysLit w.params es) (h3 : (a == sysModules) = false) (h4 : ModR K es rows) :
    ModD K w a rows := ⟨_, n, ⟨h1, by simpa using h2, h3⟩, by simpa using h4⟩
section
variable {X : Cx} {c : Cf} {G : List Ow} {f1 : Rho → Res D} {a b : Expr} {pos : Pos} {k : Addr} {rows : List (Str × D)}
theorem ModR.findBy {K : PySem.W.Frag} {es : Array DictEntry} (h : ModR K es.toList rows) (z : Str) :
    (lookD rows z = none ∧ PySem.findBy Value.isStrOf es z = none) ∨ ∃ d v u, lookD rows z = some d ∧ PySem.findBy Value.isStrOf es z = some u ∧ RelV v u ∧ ∀ (cm : CM) S, Rp K cm S v d := by
  unfold PySem.findBy
  rw [← Array.find?_toList]
  rcases h.find z with ⟨h1, h2⟩ | ⟨d, v, e, h1, h2, h3⟩
  · exact .inl ⟨h1, by rw [h2]; rfl⟩
  · exact .inr ⟨d, v, e.val, h1, by rw [h2]; rfl, h3⟩
def mdIn (neg : Bool) (rows : List (Str × D)) : D → Res D
  | .str z => .ok (.bl (if neg = true then !(lookD rows z).isSome else (lookD rows z).isSome))
  | _ => .bad
def mdGet (rows : List (Str × D)) : D → Res D
  | .str z => match lookD rows z with
    | some d => .ok d
    | none => .bad
  | _ => .bad
theorem op_mdIn (D : ModD X.K X.w k rows) : OpR X (compareOp .In) (fun x y H Q => ∃ z : Str, x = .str z ∧ y = .ref k ∧ Q (.bl (lookD rows z).isSome) H) := by
  intro pins s σ H x y v u Q I rx ry h
  obtain ⟨z, rfl, rfl, q⟩ := h
  obtain ⟨es, n, D, R⟩ := D
  obtain ⟨t, rfl⟩ := rx
  cases ry
  refine wpAny_in_of (PySem.strKind_is X.prog X.w z t) D.low (PySem.W.mapOf_K (prog := X.prog) I.kIn D.at_ D.lit) ?_
  rcases R.findBy z with ⟨h1, h2⟩ | ⟨d, v, u, h1, h2, _⟩
  · rw [h2]; rw [h1] at q; exact ⟨.bl false, H, I.tok _, rfl, q⟩
  · rw [h2]; rw [h1] at q; exact ⟨.bl true, H, I.tok _, rfl, q⟩
theorem ix_md (D : ModD X.K X.w k rows) : IxR X (fun x y H Q => ∃ z d, x = .ref k ∧ y = .str z ∧ lookD rows z = some d ∧ ∀ v, (∀ (cm : CM) S, Rp X.K cm S v d) → Q v H) := by
  intro value slice pins s σ H x y v u Q I rx ry h hs
  obtain ⟨z, d, rfl, rfl, hz, q⟩ := h
  obtain ⟨es, n, D, R⟩ := D
  obtain rfl : v = Value.ref k := rx
  obtain ⟨t, rfl⟩ := ry
  have hm := PySem.W.mapOf_K (prog := X.prog) (w := X.w) I.kIn D.at_ D.lit
  rcases R.findBy z with ⟨h1, h2⟩ | ⟨d', v', u, h1, h2, h3, h4⟩
  · rw [h1] at hz; cases hz
  · rw [h1] at hz; cases hz
    exact tail_any hm.typeIs slot_dict_getitem.lookup (wpAny_getItem_of (PySem.strKind_is X.prog X.w z t) hm h2 ⟨v', H, I.tok _, h3, q v' h4⟩) hs
theorem md_rd {neg : Bool} : ∀ σ H Q, tV c G (dUn (mdIn neg rows) f1) σ H Q → tOp (fun x y H Q => ∃ z : Str, x = .str z ∧ y = .ref k ∧ Q (.bl (if neg = true then !(lookD rows z).isSome else (lookD rows z).isSome)) H) (tR c G f1) (tC (.ref k)) σ H Q :=
  fun σ H Q ⟨S0, H0, S, r, ok, p⟩ => rd_seq ok p fun d v S1 H1 w1 o1 m1 p1 => by
    unfold mdIn at p1
    split at p1
    · cases m1.str
      exact ⟨_, rfl, rfl, p1.go o1.ex _ (.bl _)⟩
    · exact p1.elim
theorem md_rdT {neg : Bool} : ∀ σ H Q, tT c G (dT (dUn (mdIn neg rows) f1)) σ H Q → tTest (tOp (fun x y H Q => ∃ z : Str, x = .str z ∧ y = .ref k ∧ Q (.bl (if neg = true then !(lookD rows z).isSome else (lookD rows z).isSome)) H) (tR c G f1) (tC (.ref k))) σ H Q :=
  fun σ H Q ⟨S0, H0, S, r, ok, p⟩ => md_rd (G := G) σ H _ (rd_seq ok p fun d v S1 H1 w1 o1 m1 p1 => by
    obtain ⟨b, rfl, p1⟩ := of_asB p1
    cases m1
    exact ⟨b, rfl, p1.go o1.ex _ rfl⟩)
theorem dt_mdIn (D : ModD X.K X.w k rows) (ha : PE X a (tR c G f1)) (hb : PE X b (tC (.ref k))) (hm : behindInMarks .In b = false) : PT X (.Compare a [.In] [b] pos) (tT c G (dT (dUn (mdIn false rows) f1))) :=
  pt_imp (pt_cmpR (op_mdIn D) ha hb hm) (md_rdT (neg := false))
/-- D[e] -/
theorem de_mdGet (D : ModD X.K X.w k rows) (ha : PE X a (tC (.ref k))) (hb : PE X b (tR c G f1)) (hs : PlainIx b) (hK : c.K = X.K := by rfl) : PE X (.Subscript a b pos) (tV c G (dUn (mdGet rows) f1)) :=
  pe_imp (pe_ix (ix_md D) ha hb hs) fun σ H Q ⟨S0, H0, S, r, ok, p⟩ => rd_seq ok p fun d v S1 H1 w1 o1 m1 p1 => by
    unfold mdGet at p1
    split at p1
    · split at p1
      · rename_i d hd
        cases m1.str
        exact ⟨_, d, rfl, rfl, hd, fun v hv => p1.go o1.ex _ (by show Rp c.K c.cm _ v d; rw [hK]; exact hv _ _)⟩
      · exact p1.elim
    · exact p1.elim
end
end Dx
end S_DxBC
section S_DxBD
set_option Elab.async false
set_option linter.all false
set_option maxRecDepth 100000
set_option maxHeartbeats 2000000
namespace Dx
open PySem L2 ItX
open PyProof.Rows hiding St
section
variable {X : Cx} {c : Cf} {k : Nat} {fa C : Addr} {fd : FuncData} {ps : List Str} {sp : Sp}
def rStrO (C : Addr) (sp : Sp) : List V → Hp → VK → Prop := fun xs H Q => ∃ a dx fs, xs = [V.ref a] ∧ H a = some (.ins C dx fs) ∧ sp [.ref a] H (fun z H' => ∃ i : Str, z = .str i ∧ Q z H') noX
theorem call_strO (hm : L2.Meth X.K C "__str__" fa) (F1 : FnOk X.prog X.w X.K X.mg X.base (L2.CX X.prog X.w) k fa fd ps sp) (hr : Room (k + 2) X.A) (hb : L2.Binds X.K fd ps []) : CallR X (.type "str") (rStrO C sp) := by
  intro pins s σ H xs us Q I r h
  obtain ⟨a, dx, fs, rfl, ha, q⟩ := h
  obtain ⟨u, rfl, ru⟩ := r.one
  cases ru
  obtain ⟨ox, od, J, _⟩ := ins_at I ha
  refine PySem.W.kso_call (by have := (hr.in1.in1).units; omega) I.kIn J hm.at_ hm.fn (wpAny_mono (run_calm (us := [.ref a]) (vs := [.ref a]) F1 hr.in1.in1 I.env0.in1.in1 hb I (.cons rfl .nil) q) (fun w s' z => ?_) fun _ _ x => x)
  obtain ⟨z', H', I', rz, i, rfl, qz⟩ := z
  obtain ⟨t, rfl⟩ := rz
  exact ⟨.str i, H', I', ⟨_, rfl⟩, qz⟩
noncomputable def strO (n : Str) (F : List D → Res D) (d : D) : Res D := if isCls n d = true then (match F [d] with
  | .ok (.str i) => .ok (.str i)
  | _ => .bad) else .bad
theorem cs_strO {n : Str} {F : List D → Res D} (hcn : c.cm n = some C) : CallS c (mV c) (rStrO C (spD c.K c.cm [true] false F)) [true] (g1 (strO n F)) := by
  intro σ S H vs ds Q ex m p
  obtain ⟨v, d, rfl, rfl, h⟩ := m.one
  have p : PostG c σ S H (strO n F d) _ := p
  unfold strO at p
  split at p
  · rename_i hc
    obtain ⟨a, dx, gs, rfl, h2⟩ := of_isCls ex hcn hc h
    split at p
    · rename_i i hF
      exact ⟨a, dx, gs, rfl, h2, calm_sp (ds := [d]) ex ⟨h, trivial⟩ hF fun S' H' b w hb => by
        have hb : Rp c.K c.cm S' b (.str i) := hb
        cases hb
        exact ⟨i, rfl, p S' H' w _ (.str i)⟩⟩
    · exact p.elim
  · exact p.elim
/-- str(text) -/
def strSS : D → Res D
  | .str a => .ok (.str a)
  | _ => .bad
theorem cs_strSS : CallS c (mV c) (fun xs H Q => ∃ a, xs = [V.str a] ∧ Q (.str a) H) [true] (g1 strSS) := by
  intro σ S H vs ds Q ex m p
  obtain ⟨v, d, rfl, rfl, h⟩ := m.one
  cases d with
  | str a => cases h.str; exact ⟨_, rfl, p.here ex (.str _)⟩
  | _ => exact p.elim
end
section
variable {Q : D → Prop} {E : Str → List Str → List D → Prop}
theorem rs_strSS {a : Str} (q : Q (.str a)) : Rs (g1 strSS [.str a]) Q E := q
theorem rs_strO {n : Str} {F : List D → Res D} {ns : List Str} {vs : List D} {i : Str} (hF : F [.obj n ns vs] = .ok (.str i)) (q : Q (.str i)) : Rs (g1 (strO n F) [.obj n ns vs]) Q E := by
  show Rs (strO n F (.obj n ns vs)) Q E
  unfold strO
  rw [if_pos isCls_self, hF]
  exact q
end
end Dx
end S_DxBD
section S_P_data
set_option Elab.async false
set_option linter.all false
set_option maxRecDepth 100000
namespace Lk
open PySem L2 Dx
noncomputable section
def isM_BadLine : Str → Option Bool := fun n => if n = "BadPattern" then some false else none
def isM_BadPattern : Str → Option Bool := fun n => if n = "BadPattern" then some true else none
def isM_BadValue : Str → Option Bool := fun n => if n = "BadPattern" then some false else none
def isM_LaidError : Str → Option Bool := fun n => if n = "BadPattern" then some true else none
def isM_ValueError : Str → Option Bool := fun n => if n = "BadPattern" then some true else none
def md_LINKS : List (Str × D) := [((Sg [62]), .str (Sg [112, 97, 114, 101, 110, 116])), ((Sg [43]), .str (Sg [101, 108, 100, 101, 114]))]
def Lp_is_name_1 : Rho → SR := (ifF (dT (dOp ninD (dVar 1) (dC (.str (Sg [97, 98, 99, 100, 101, 102, 103, 104, 105, 106, 107, 108, 109, 110, 111, 112, 113, 114, 115, 116, 117, 118, 119, 120, 121, 122]))))) (retF (dC (.bl false))) .nx)
def Fb_is_name : Rho → SR := (seqF (ifF (dNot (dT (dChain leD leD (dC (.int 1)) (dCall (g1 lenD) (dCons (dVar 0) dNil)) (dC (.int 8))))) (retF (dC (.bl false))) .nx) (seqF (forF (dIt itemsS (dVar 0)) (tgN 1) Lp_is_name_1) (retF (dC (.bl true)))))
def F_is_name : List D → Res D := runF 2 false Fb_is_name
def Fb_read_test : Rho → SR := (seqF (asgF (tgT 3 (tgCons (tgN 1) (tgCons (tgN 2) (tgCons (tgN 3) tgNil)))) (dStr partD (dVar 0) (dC (.str (Sg [46]))))) (seqF (ifF (dAnd (dT (dOp neD (dVar 1) (dC (.str (Sg [42]))))) (dNot (dT (dCall F_is_name (dCons (dVar 1) dNil))))) (retF (dC .non)) .nx) (seqF (ifF (dAnd (dT (dOp neD (dVar 2) (dC (.str (Sg []))))) (dNot (dT (dCall F_is_name (dCons (dVar 3) dNil))))) (retF (dC .non)) .nx) (retF (dTup (dCons (dVar 1) (dCons (dVar 3) dNil)))))))
def F_read_test : List D → Res D := runF 4 false Fb_read_test
def Lp_read_pattern_1 : Rho → SR := (seqF (ifF (dAnd (dT (dUn (mdIn false md_LINKS) (dVar 4))) (dT (dOp eqD (dVar 3) (dC (.str (Sg [97, 110, 99, 101, 115, 116, 111, 114])))))) (seqF (setF 3 (dUn (mdGet md_LINKS) (dVar 4))) .ct) .nx) (seqF (setF 5 (dCall F_read_test (dCons (dVar 4) dNil))) (seqF (ifF (dT (dOp (isD false) (dVar 5) (dC .non))) (retF (dC .non)) .nx) (seqF (appF 1 (dVar 5)) (seqF (appF 2 (dVar 3)) (setF 3 (dC (.str (Sg [97, 110, 99, 101, 115, 116, 111, 114])))))))))
def Fb_read_pattern : Rho → SR := (seqF (setF 1 (dLst dNil)) (seqF (setF 2 (dLst dNil)) (seqF (setF 3 (dC (.str (Sg [115, 116, 97, 114, 116])))) (seqF (forF (dIt itemsL (dStr splitD (dVar 0) (dC (.str (Sg [32]))))) (tgN 4) Lp_read_pattern_1) (seqF (ifF (dOr (dT (dOp neD (dVar 3) (dC (.str (Sg [97, 110, 99, 101, 115, 116, 111, 114]))))) (dT (dOp gtD (dCall (g1 lenD) (dCons (dVar 1) dNil)) (dC (.int 4))))) (retF (dC .non)) .nx) (retF (dTup (dCons (dCall (g1 tupleD) (dCons (dVar 1) dNil)) (dCons (dCall (g1 tupleD) (dCons (dVar 2) dNil)) dNil)))))))))
def F_read_pattern : List D → Res D := runF 6 false Fb_read_pattern
def Fb_Pattern_init : Rho → SR := (seqF (setF 2 (dCall F_read_pattern (dCons (dVar 1) dNil))) (seqF (ifF (dT (dOp (isD false) (dVar 2) (dC .non))) (raiF "BadPattern" ["text"] false (dCons (dVar 1) dNil)) .nx) (seqF (fstF 0 "Pattern" "text" (dVar 1)) (seqF (fstF 0 "Pattern" "tests" (dOp ixD (dVar 2) (dC (.int 0)))) (fstF 0 "Pattern" "links" (dOp ixD (dVar 2) (dC (.int 1))))))))
def F_Pattern_init : List D → Res D := runI 3 "Pattern" Fb_Pattern_init
def Fb_Pattern_str : Rho → SR := (retF (dCall (g1 strSS) (dCons (dUn (fldD "Pattern" "text") (dVar 0)) dNil)))
def F_Pattern_str : List D → Res D := runF 1 false Fb_Pattern_str
def Fb_Pattern_len : Rho → SR := (retF (dCall (g1 lenD) (dCons (dUn (fldD "Pattern" "tests") (dVar 0)) dNil)))
def F_Pattern_len : List D → Res D := runF 1 false Fb_Pattern_len
def Fb_Pattern_eq : Rho → SR := (retF (dAndV (dUn (isiO "Pattern") (dVar 1)) (dOp eqD (dUn (fldD "Pattern" "text") (dVar 0)) (dUn (fldD "Pattern" "text") (dVar 1)))))
def F_Pattern_eq : List D → Res D := runF 2 false Fb_Pattern_eq
def Fb_Pattern_asked : Rho → SR := (retF (dCall (g1 lenD) (dCons (dLc (dIt itemsT (dUn (fldD "Pattern" "tests") (dVar 0))) (tgN 1) (dT (dOp neD (dOp ixD (dVar 1) (dC (.int 1))) (dC (.str (Sg []))))) (dVar 1) [1]) dNil)))
def F_Pattern_asked : List D → Res D := runF 2 false Fb_Pattern_asked
def Fb_Pattern_named : Rho → SR := (retF (dCall (g1 lenD) (dCons (dLc (dIt itemsT (dUn (fldD "Pattern" "tests") (dVar 0))) (tgN 1) (dT (dOp neD (dOp ixD (dVar 1) (dC (.int 0))) (dC (.str (Sg [42]))))) (dVar 1) [1]) dNil)))
def F_Pattern_named : List D → Res D := runF 2 false Fb_Pattern_named
def Fb_l_cell : Rho → SR := (seqF (ifF (dT (dOp ltD (dVar 1) (dCall (g1 lenD) (dCons (dVar 0) dNil)))) (retF (dCall (g1 intD) (dCons (dOp ixD (dVar 0) (dVar 1)) dNil))) .nx) (retF (dOp addD (dOp mulX (dC (.int 7)) (dVar 1)) (dC (.int 1)))))
def F_l_cell : List D → Res D := runF 2 false Fb_l_cell
def Lp_l_row_1 : Rho → SR := (seqF (appF 2 (dOp modD (dCall (g1 intD) (dCons (dVar 3) dNil)) (dVar 4))) (setF 3 (dOp fdivD (dVar 3) (dVar 4))))
def Lp_l_row_2 : Rho → SR := (seqF (setF 6 (dOp modD (dCall (g1 intD) (dCons (dOp addD (dOp addD (dOp mulX (dVar 0) (dC (.int 48271))) (dOp mulX (dVar 5) (dC (.int 69621)))) (dC (.int 11))) dNil)) (dC (.int 2147483647)))) (seqF (setF 6 (dOp modD (dCall (g1 intD) (dCons (dOp addD (dOp addD (dOp mulX (dVar 6) (dOp addD (dC (.int 16807)) (dOp mulX (dC (.int 2)) (dVar 5)))) (dOp mulX (dOp mulX (dVar 5) (dVar 5)) (dC (.int 40692)))) (dC (.int 7))) dNil)) (dC (.int 2147483399)))) (appF 2 (dOp modD (dCall (g1 intD) (dCons (dOp fdivD (dVar 6) (dC (.int 31))) dNil)) (dOp ixD (dVar 1) (dVar 5))))))
def Fb_l_row : Rho → SR := (seqF (setF 2 (dLst dNil)) (seqF (ifF (dT (dOp geD (dVar 0) (dC (.int 1000000000000000000)))) (seqF (setF 3 (dOp subD (dVar 0) (dC (.int 1000000000000000000)))) (seqF (forF (dIt itemsL (dVar 1)) (tgN 4) Lp_l_row_1) (retF (dVar 2)))) .nx) (seqF (forF (dIts rng1 (dCons (dCall (g1 lenD) (dCons (dVar 1) dNil)) dNil)) (tgN 5) Lp_l_row_2) (retF (dVar 2)))))
def F_l_row : List D → Res D := runF 7 false Fb_l_row
def Fb_l_names : Rho → SR := (seqF (setF 2 (dCall F_l_row (dCons (dVar 0) (dCons (dLst (dCons (dC (.int 3)) (dCons (dC (.int 8)) (dCons (dC (.int 8)) (dCons (dC (.int 26)) (dCons (dC (.int 26)) (dCons (dC (.int 26)) (dCons (dC (.int 26)) (dCons (dC (.int 26)) (dCons (dC (.int 26)) (dCons (dC (.int 26)) (dCons (dC (.int 26)) (dCons (dC (.int 26)) dNil))))))))))))) dNil)))) (seqF (setF 3 (dC (.str (Sg [97, 98, 99, 100, 101, 102, 103, 104, 105, 106, 107, 108, 109, 110, 111, 112, 113, 114, 115, 116, 117, 118, 119, 120, 121, 122])))) (seqF (ifF (dT (dOp eqD (dOp ixD (dVar 2) (dC (.int 0))) (dC (.int 0)))) (retF (dSl slD (dLst (dCons (dC (.str (Sg [100, 111, 99]))) (dCons (dC (.str (Sg [112, 97, 114]))) (dCons (dC (.str (Sg [101, 109]))) (dCons (dC (.str (Sg [104, 101, 97, 100]))) (dCons (dC (.str (Sg [110, 111, 116, 101]))) (dCons (dC (.str (Sg [97]))) (dCons (dC (.str (Sg [98]))) (dCons (dC (.str (Sg [120]))) dNil))))))))) dNoP (dPart (dVar 1)))) .nx) (seqF (setF 4 (dStr joinD (dC (.str (Sg []))) (dLc (dIt itemsL (dSl slD (dVar 2) (dPart (dC (.int 4))) dNoP)) (tgN 5) dYes (dOp ixD (dVar 3) (dVar 5)) [5]))) (seqF (ifF (dT (dOp eqD (dOp ixD (dVar 2) (dC (.int 0))) (dC (.int 1)))) (retF (dLc (dIts rng1 (dCons (dVar 1) dNil)) (tgN 5) dYes (dSl slD (dVar 4) dNoP (dPart (dOp addD (dVar 5) (dC (.int 1))))) [5])) .nx) (seqF (setF 6 (dOp modD (dCall (g1 intD) (dCons (dOp ixD (dVar 2) (dC (.int 2))) dNil)) (dOp addD (dOp ixD (dVar 2) (dC (.int 1))) (dC (.int 1))))) (seqF (setF 7 (dSl slD (dVar 4) (dPart (dOp addD (dVar 6) (dC (.int 1)))) (dPart (dOp addD (dOp ixD (dVar 2) (dC (.int 1))) (dC (.int 1)))))) (retF (dLc (dIts rng1 (dCons (dVar 1) dNil)) (tgN 5) dYes (dOp addD (dOp addD (dSl slD (dVar 4) dNoP (dPart (dVar 6))) (dOp ixD (dVar 3) (dOp modD (dCall (g1 intD) (dCons (dOp addD (dOp ixD (dVar 2) (dC (.int 3))) (dVar 5)) dNil)) (dC (.int 26))))) (dVar 7)) [5])))))))))
def F_l_names : List D → Res D := runF 8 false Fb_l_names
def Fb_l_number : Rho → SR := (retF (dAndV (dUn (isiD "int") (dVar 0)) (dNotV (dUn (isiD "bool") (dVar 0)))))
def F_l_number : List D → Res D := runF 1 false Fb_l_number
def Lp_l_drawn_1 : Rho → SR := (seqF (ifF (dT (dOp gtD (dVar 5) (dC (.int 0)))) (setF 4 (dOp addD (dVar 4) (dOp ixD (dLst (dCons (dC (.str (Sg [32]))) (dCons (dC (.str (Sg [32, 62, 32]))) (dCons (dC (.str (Sg [32, 43, 32]))) dNil)))) (dOp ixD (dVar 3) (dOp mulX (dC (.int 3)) (dVar 5)))))) .nx) (seqF (setF 4 (dOp addD (dVar 4) (dOp ixD (dVar 1) (dOp ixD (dVar 3) (dOp addD (dOp mulX (dC (.int 3)) (dVar 5)) (dC (.int 1))))))) (ifF (dT (dOp gtD (dOp ixD (dVar 3) (dOp addD (dOp mulX (dC (.int 3)) (dVar 5)) (dC (.int 2)))) (dC (.int 1)))) (setF 4 (dOp addD (dOp addD (dVar 4) (dC (.str (Sg [46])))) (dOp ixD (dVar 2) (dOp subD (dOp ixD (dVar 3) (dOp addD (dOp mulX (dC (.int 3)) (dVar 5)) (dC (.int 2)))) (dC (.int 2)))))) .nx)))
def Fb_l_drawn : Rho → SR := (seqF (setF 3 (dCall F_l_row (dCons (dVar 0) (dCons (dLst (dCons (dC (.int 4)) (dCons (dC (.int 5)) (dCons (dC (.int 4)) (dCons (dC (.int 3)) (dCons (dC (.int 5)) (dCons (dC (.int 4)) (dCons (dC (.int 3)) (dCons (dC (.int 5)) (dCons (dC (.int 4)) (dCons (dC (.int 3)) (dCons (dC (.int 5)) (dCons (dC (.int 4)) (dCons (dC (.int 3)) dNil)))))))))))))) dNil)))) (seqF (setF 4 (dC (.str (Sg [])))) (seqF (forF (dIts rng1 (dCons (dOp addD (dOp ixD (dVar 3) (dC (.int 0))) (dC (.int 1))) dNil)) (tgN 5) Lp_l_drawn_1) (retF (dVar 4)))))
def F_l_drawn : List D → Res D := runF 6 false Fb_l_drawn
def Fb_l_odd : Rho → SR := (seqF (setF 1 (dLst (dCons (dC (.str (Sg []))) (dCons (dC (.str (Sg [32]))) (dCons (dC (.str (Sg [42]))) (dCons (dC (.str (Sg [46]))) (dCons (dC (.str (Sg [43]))) (dCons (dC (.str (Sg [62]))) (dCons (dC (.str (Sg [97, 32, 62]))) (dCons (dC (.str (Sg [62, 32, 97]))) (dCons (dC (.str (Sg [43, 32, 97]))) (dCons (dC (.str (Sg [97, 32, 43]))) (dCons (dC (.str (Sg [97, 32, 43, 32, 43, 32, 98]))) (dCons (dC (.str (Sg [97, 32, 62, 32, 62, 32, 98]))) (dCons (dC (.str (Sg [97, 32, 62, 32, 43, 32, 98]))) dNil))))))))))))))) (seqF (setF 1 (dOp addD (dVar 1) (dLst (dCons (dC (.str (Sg [97, 32, 32, 98]))) (dCons (dC (.str (Sg [32, 97]))) (dCons (dC (.str (Sg [97, 32]))) dNil)))))) (seqF (setF 1 (dOp addD (dVar 1) (dLst (dCons (dC (.str (Sg [97, 46, 98, 46, 99]))) (dCons (dC (.str (Sg [97, 46]))) (dCons (dC (.str (Sg [46, 98]))) (dCons (dC (.str (Sg [42, 42]))) (dCons (dC (.str (Sg [42, 46, 42]))) (dCons (dC (.str (Sg [65]))) (dCons (dC (.str (Sg [97, 49]))) (dCons (dC (.str (Sg [97, 98, 99, 100, 101, 102, 103, 104]))) (dCons (dC (.str (Sg [97, 98, 99, 100, 101, 102, 103, 104, 105]))) (dCons (dC (.str (Sg [97, 46, 97, 98, 99, 100, 101, 102, 103, 104, 105]))) (dCons (dC (.str (Sg [97, 62, 98]))) (dCons (dC (.str (Sg [97, 32, 43, 98]))) dNil))))))))))))))) (retF (dOp ixD (dOp addD (dVar 1) (dLst (dCons (dC (.str (Sg [97, 32, 98, 32, 99, 32, 100, 32, 101]))) (dCons (dC (.str (Sg [97, 32, 62, 32, 98, 32, 43, 32, 99, 46, 120, 32, 42, 32, 62, 32, 42, 46, 121]))) dNil)))) (dOp modD (dCall (g1 intD) (dCons (dVar 0) dNil)) (dC (.int 30))))))))
def F_l_odd : List D → Res D := runF 2 false Fb_l_odd
def Fb_l_bent : Rho → SR := (seqF (setF 2 (dCall F_l_row (dCons (dVar 0) (dCons (dLst (dCons (dC (.int 6)) (dCons (dC (.int 90)) (dCons (dC (.int 91)) (dCons (dC (.int 3)) dNil))))) dNil)))) (seqF (setF 3 (dC (.str (Sg [32, 33, 34, 35, 36, 38, 39, 40, 41, 42, 43, 44, 45, 46, 47, 48, 49, 50, 51, 52, 53, 54, 55, 56, 57, 58, 59, 60, 61, 62, 63, 64, 65, 66, 67, 68, 69, 70, 71, 72, 73, 74, 75, 76, 77, 78, 79, 80, 81, 82, 83, 84, 85, 86, 87, 88, 89, 90, 94, 95, 96, 97, 98, 99, 100, 101, 102, 103, 104, 105, 106, 107, 108, 109, 110, 111, 112, 113, 114, 115, 116, 117, 118, 119, 120, 121, 122, 123, 124, 125, 126])))) (seqF (setF 4 (dOp modD (dCall (g1 intD) (dCons (dOp ixD (dVar 2) (dC (.int 1))) dNil)) (dOp addD (dCall (g1 lenD) (dCons (dVar 1) dNil)) (dC (.int 1))))) (seqF (setF 5 (dOp ixD (dVar 3) (dOp ixD (dVar 2) (dC (.int 2))))) (seqF (ifF (dT (dOp gtD (dOp ixD (dVar 2) (dC (.int 3))) (dC (.int 0)))) (setF 5 (dOp ixD (dC (.str (Sg [32, 46, 42, 62, 43, 97, 122]))) (dOp modD (dCall (g1 intD) (dCons (dOp ixD (dVar 2) (dC (.int 2))) dNil)) (dC (.int 7))))) .nx) (seqF (ifF (dT (dOp eqD (dOp ixD (dVar 2) (dC (.int 0))) (dC (.int 0)))) (retF (dOp addD (dSl slD (dVar 1) dNoP (dPart (dVar 4))) (dSl slD (dVar 1) (dPart (dOp addD (dVar 4) (dC (.int 1)))) dNoP))) .nx) (seqF (ifF (dT (dOp eqD (dOp ixD (dVar 2) (dC (.int 0))) (dC (.int 1)))) (retF (dOp addD (dOp addD (dSl slD (dVar 1) dNoP (dPart (dVar 4))) (dVar 5)) (dSl slD (dVar 1) (dPart (dVar 4)) dNoP))) .nx) (seqF (ifF (dT (dOp eqD (dOp ixD (dVar 2) (dC (.int 0))) (dC (.int 2)))) (retF (dOp addD (dOp addD (dSl slD (dVar 1) dNoP (dPart (dVar 4))) (dVar 5)) (dSl slD (dVar 1) (dPart (dOp addD (dVar 4) (dC (.int 1)))) dNoP))) .nx) (seqF (ifF (dT (dOp eqD (dOp ixD (dVar 2) (dC (.int 0))) (dC (.int 3)))) (retF (dOp addD (dOp addD (dSl slD (dVar 1) dNoP (dPart (dVar 4))) (dSl slD (dVar 1) (dPart (dVar 4)) (dPart (dOp addD (dVar 4) (dC (.int 1)))))) (dSl slD (dVar 1) (dPart (dVar 4)) dNoP))) .nx) (seqF (ifF (dT (dOp eqD (dOp ixD (dVar 2) (dC (.int 0))) (dC (.int 4)))) (seqF (setF 6 (dOp addD (dSl slD (dVar 1) (dPart (dOp addD (dVar 4) (dC (.int 1)))) (dPart (dOp addD (dVar 4) (dC (.int 2))))) (dSl slD (dVar 1) (dPart (dVar 4)) (dPart (dOp addD (dVar 4) (dC (.int 1))))))) (retF (dOp addD (dOp addD (dSl slD (dVar 1) dNoP (dPart (dVar 4))) (dVar 6)) (dSl slD (dVar 1) (dPart (dOp addD (dVar 4) (dC (.int 2)))) dNoP)))) .nx) (retF (dCall F_l_odd (dCons (dOp ixD (dVar 2) (dC (.int 2))) dNil)))))))))))))
def F_l_bent : List D → Res D := runF 7 false Fb_l_bent
def Lp_l_name_1 : Rho → SR := (ifF (dT (dOp ninD (dVar 1) (dC (.str (Sg [97, 98, 99, 100, 101, 102, 103, 104, 105, 106, 107, 108, 109, 110, 111, 112, 113, 114, 115, 116, 117, 118, 119, 120, 121, 122]))))) (retF (dC (.bl false))) .nx)
def Fb_l_name : Rho → SR := (seqF (forF (dIt itemsS (dVar 0)) (tgN 1) Lp_l_name_1) (retF (dAndV (dOp leD (dC (.int 1)) (dCall (g1 lenD) (dCons (dVar 0) dNil))) (dOp leD (dCall (g1 lenD) (dCons (dVar 0) dNil)) (dC (.int 8))))))
def F_l_name : List D → Res D := runF 2 false Fb_l_name
def Lp_l_read_1 : Rho → SR := (seqF (ifF (dAnd (dTru (dVar 2)) (dOr (dT (dOp eqD (dVar 3) (dC (.str (Sg [62]))))) (dT (dOp eqD (dVar 3) (dC (.str (Sg [43]))))))) (seqF (setF 2 (dC (.bl false))) .ct) .nx) (seqF (setF 4 (dStr findD (dVar 3) (dC (.str (Sg [46]))))) (seqF (setF 5 (dVar 3)) (seqF (ifF (dT (dOp geD (dVar 4) (dC (.int 0)))) (seqF (setF 5 (dSl slD (dVar 3) dNoP (dPart (dVar 4)))) (ifF (dNot (dT (dCall F_l_name (dCons (dSl slD (dVar 3) (dPart (dOp addD (dVar 4) (dC (.int 1)))) dNoP) dNil)))) (retF (dC .non)) .nx)) .nx) (seqF (ifF (dAnd (dT (dOp neD (dVar 5) (dC (.str (Sg [42]))))) (dNot (dT (dCall F_l_name (dCons (dVar 5) dNil))))) (retF (dC .non)) .nx) (seqF (appF 1 (dTup (dCons (dOp neD (dVar 5) (dC (.str (Sg [42])))) (dCons (dOp geD (dVar 4) (dC (.int 0))) dNil)))) (setF 2 (dC (.bl true)))))))))
def Fb_l_read : Rho → SR := (seqF (setF 1 (dLst dNil)) (seqF (setF 2 (dC (.bl false))) (seqF (forF (dIt itemsL (dStr splitD (dVar 0) (dC (.str (Sg [32]))))) (tgN 3) Lp_l_read_1) (seqF (ifF (dOr (dNot (dTru (dVar 2))) (dT (dOp gtD (dCall (g1 lenD) (dCons (dVar 1) dNil)) (dC (.int 4))))) (retF (dC .non)) .nx) (retF (dVar 1))))))
def F_l_read : List D → Res D := runF 6 false Fb_l_read
def Fb_l_refused : Rho → SR := (seqF (tryF isM_BadPattern 1 (dropF (dCall F_Pattern_init (dCons (dVar 0) dNil))) (seqF (ifF (dOr (dT (dIsX isM_BadValue 1)) (dT (dIsX isM_BadLine 1))) (retF (dC (.bl false))) .nx) (retF (dAndV (dIsX isM_LaidError 1) (dAndV (dIsX isM_ValueError 1) (dAndV (dUn (isiD "str") (dXf 1 "text")) (dOp eqD (dXf 1 "text") (dVar 0)))))))) (retF (dC (.bl false))))
def F_l_refused : List D → Res D := runF 2 false Fb_l_refused
def Lp_l_let_1 : Rho → SR := (ifF (dOr (dNot (dT (dCall F_l_number (dCons (dOp ixD (dVar 4) (dVar 7)) dNil)))) (dT (dOp neD (dOp ixD (dVar 4) (dVar 7)) (dOp ixD (dVar 5) (dVar 7))))) (retF (dC (.bl false))) .nx)
def Lp_l_let_2 : Rho → SR := (ifF (dOr (dNot (dT (dUn (isiD "bool") (dVar 9)))) (dT (dOp neD (dVar 9) (dOp eqD (dVar 0) (dVar 2))))) (retF (dC (.bl false))) .nx)
def Fb_l_let : Rho → SR := (seqF (setF 3 (dCall F_Pattern_init (dCons (dVar 0) dNil))) (seqF (setF 4 (dLst (dCons (dCall (g1 (lenO "Pattern" F_Pattern_len)) (dCons (dVar 3) dNil)) (dCons (dProp "Pattern" F_Pattern_asked (dVar 3)) (dCons (dProp "Pattern" F_Pattern_named (dVar 3)) dNil))))) (seqF (setF 5 (dLst (dCons (dCall (g1 lenD) (dCons (dVar 1) dNil)) (dCons (dCall (g1 lenD) (dCons (dLc (dIt itemsL (dVar 1)) (tgN 6) (dTru (dOp ixD (dVar 6) (dC (.int 1)))) (dVar 6) [6]) dNil)) (dCons (dCall (g1 lenD) (dCons (dLc (dIt itemsL (dVar 1)) (tgN 6) (dTru (dOp ixD (dVar 6) (dC (.int 0)))) (dVar 6) [6]) dNil)) dNil))))) (seqF (forF (dIts rng1 (dCons (dC (.int 3)) dNil)) (tgN 7) Lp_l_let_1) (seqF (setF 8 (dCall (g1 (strO "Pattern" F_Pattern_str)) (dCons (dVar 3) dNil))) (seqF (ifF (dOr (dNot (dT (dUn (isiD "str") (dVar 8)))) (dT (dOp neD (dVar 8) (dVar 0)))) (retF (dC (.bl false))) .nx) (seqF (ifF (dOr (dT (dOp (isBD true) (dOp (binO "Pattern" F_Pattern_eq) (dVar 3) (dCall F_Pattern_init (dCons (dVar 0) dNil))) (dC (.bl true)))) (dT (dOp (isBD true) (dOp (cmpV "Pattern" F_Pattern_eq) (dVar 3) (dVar 0)) (dC (.bl false))))) (retF (dC (.bl false))) .nx) (seqF (forF (dIt itemsL (dLst (dCons (dOp (binO "Pattern" F_Pattern_eq) (dVar 3) (dCall F_Pattern_init (dCons (dVar 2) dNil))) (dCons (dOp (binO "Pattern" F_Pattern_eq) (dCall F_Pattern_init (dCons (dVar 2) dNil)) (dVar 3)) dNil)))) (tgN 9) Lp_l_let_2) (retF (dC (.bl true)))))))))))
def F_l_let : List D → Res D := runF 10 false Fb_l_let
def Lp_law_1 : Rho → SR := (seqF (setF 6 (dCall F_l_read (dCons (dVar 5) dNil))) (ifF (dT (dOp (isD false) (dVar 6) (dC .non))) (ifF (dNot (dT (dCall F_l_refused (dCons (dVar 5) dNil)))) (retF (dC (.bl false))) .nx) (ifF (dNot (dT (dCall F_l_let (dCons (dVar 5) (dCons (dVar 6) (dCons (dVar 2) dNil)))))) (retF (dC (.bl false))) .nx)))
def Fb_law : Rho → SR := (seqF (setF 1 (dCall F_l_names (dCons (dCall F_l_cell (dCons (dVar 0) (dCons (dC (.int 0)) dNil))) (dCons (dC (.int 6)) dNil)))) (seqF (setF 2 (dCall F_l_drawn (dCons (dCall F_l_cell (dCons (dVar 0) (dCons (dC (.int 1)) dNil))) (dCons (dOp addD (dSl slD (dVar 1) dNoP (dPart (dC (.int 4)))) (dLst (dCons (dC (.str (Sg [42]))) dNil))) (dCons (dSl slD (dVar 1) (dPart (dC (.int 4))) dNoP) dNil))))) (seqF (setF 3 (dCall F_l_bent (dCons (dCall F_l_cell (dCons (dVar 0) (dCons (dC (.int 2)) dNil))) (dCons (dVar 2) dNil)))) (seqF (setF 4 (dCall F_l_bent (dCons (dCall F_l_cell (dCons (dVar 0) (dCons (dC (.int 3)) dNil))) (dCons (dVar 3) dNil)))) (seqF (forF (dIt itemsL (dLst (dCons (dVar 2) (dCons (dVar 3) (dCons (dVar 4) (dCons (dCall F_l_odd (dCons (dCall F_l_cell (dCons (dVar 0) (dCons (dC (.int 4)) dNil))) dNil)) (dCons (dVar 2) dNil))))))) (tgN 5) Lp_law_1) (retF (dC (.bl true))))))))
def F_law : List D → Res D := runF 7 false Fb_law
end
end Lk
end S_P_data
section S_MM_pa
set_option Elab.async false
set_option linter.all false
set_option maxHeartbeats 2000000
set_option maxRecDepth 100000
namespace Lk
open PySem L2 Dx
local macro_rules
  | `(tactic| array_get_dec) => `(tactic| repeat (first
    | ((with_reducible apply Dx.rs_asSJ); · (first | omega | (simp only [List.length_append, List.length_cons, List.length_nil, List.length_map, List.length_range, List.length_replicate, List.length_reverse, List.length_take, List.length_drop]; omega)))
    | with_reducible refine Dx.rs_c ?_
    | with_reducible refine Dx.rs_op ?_
    | with_reducible refine Dx.rs_str ?_
    | with_reducible refine Dx.rs_asS ?_
    | with_reducible refine Dx.rs_un ?_
    | with_reducible refine Dx.rs_nil ?_
    | with_reducible refine Dx.rs_cons ?_
    | with_reducible refine Dx.rs_call ?_
    | with_reducible refine Dx.rs_T ?_
    | with_reducible refine Dx.rs_asB ?_
    | with_reducible refine Dx.rs_asI ?_
    | with_reducible refine Dx.rs_not ?_
    | with_reducible refine Dx.rs_and ?_
    | with_reducible refine Dx.rs_or ?_
    | with_reducible refine Dx.rs_andV ?_
    | with_reducible refine Dx.rs_orV ?_
    | with_reducible refine Dx.rs_notV ?_
    | with_reducible refine Dx.rs_chain ?_
    | with_reducible refine Dx.rs_noP ?_
    | with_reducible refine Dx.rs_part ?_
    | with_reducible refine Dx.rs_sl ?_
    | with_reducible refine Dx.rs_it ?_
    | with_reducible refine Dx.rs_its ?_
    | with_reducible refine Dx.rs_yes ?_
    | with_reducible refine Dx.rs_meth ?_
    | with_reducible refine Dx.rs_tru ?_
    | with_reducible refine Dx.rs_truB ?_
    | with_reducible refine Dx.rs_truI ?_
    | with_reducible refine Dx.rs_truL ?_
    | with_reducible refine Dx.rs_truT ?_
    | with_reducible refine Dx.rs_truN ?_
    | with_reducible refine Dx.rs_ifx ?_
    | with_reducible refine Dx.rs_add ?_
    | with_reducible refine Dx.rs_sub ?_
    | with_reducible refine Dx.rs_neg ?_
    | with_reducible refine Dx.rs_eqI ?_
    | with_reducible refine Dx.rs_neI ?_
    | with_reducible refine Dx.rs_eqS ?_
    | with_reducible refine Dx.rs_neS ?_
    | with_reducible refine Dx.rs_eqB ?_
    | with_reducible refine Dx.rs_neB ?_
    | with_reducible refine Dx.rs_lt ?_
    | with_reducible refine Dx.rs_le ?_
    | with_reducible refine Dx.rs_gt ?_
    | with_reducible refine Dx.rs_ge ?_
    | with_reducible refine Dx.rs_is ?_
    | with_reducible refine Dx.rs_isn ?_
    | with_reducible refine Dx.rs_inS ?_
    | with_reducible refine Dx.rs_ninS ?_
    | with_reducible refine Dx.rs_lenL ?_
    | with_reducible refine Dx.rs_lenF ?_
    | with_reducible refine Dx.rs_lenT ?_
    | with_reducible refine Dx.rs_int ?_
    | with_reducible refine Dx.rs_intB ?_
    | with_reducible refine Dx.rs_abs ?_
    | with_reducible refine Dx.rs_listL ?_
    | with_reducible refine Dx.rs_listT ?_
    | with_reducible refine Dx.rs_tupL ?_
    | with_reducible refine Dx.rs_tupT ?_
    | with_reducible refine Dx.rs_slL ?_
    | with_reducible refine Dx.rs_slO ?_
    | with_reducible refine Dx.rs_slT ?_
    | with_reducible refine Dx.rs_itsL ?_
    | with_reducible refine Dx.rs_itsT ?_
    | with_reducible refine Dx.rs_itsS ?_
    | with_reducible refine Dx.rs_enL ?_
    | with_reducible refine Dx.rs_enT ?_
    | with_reducible refine Dx.rs_enS ?_
    | with_reducible refine Dx.rs_ints ?_
    | with_reducible refine Dx.rs_sortI ?_
    | with_reducible refine Dx.rs_sum ?_
    | with_reducible refine Dx.rs_g2 ?_
    | with_reducible refine Dx.rs_all ?_
    | with_reducible refine Dx.rs_disp ?_
    | with_reducible refine Dx.rs_pnil ?_
    | with_reducible refine Dx.rs_pcons ?_
    | with_reducible refine Dx.rs_jnil ?_
    | with_reducible refine Dx.rs_jcons ?_
    | with_reducible refine Dx.rs_dJoin ?_
    | with_reducible refine Dx.rs_ord ?_
    | with_reducible refine Dx.rs_leS ?_
    | with_reducible refine Dx.rs_inKI ?_
    | with_reducible refine Dx.rs_inI ?_
    | with_reducible refine Dx.rs_ninI ?_
    | with_reducible refine Dx.rs_inTk ?_
    | with_reducible refine Dx.rs_getET ?_
    | with_reducible refine Dx.rs_dD0 ?_
    | with_reducible refine Dx.rs_listTk ?_
    | with_reducible refine Dx.rs_lenTk ?_
    | with_reducible refine Dx.rs_itTk ?_
    | with_reducible refine Dx.rs_end ?_
    | with_reducible refine Dx.rs_start ?_
    | with_reducible refine Dx.rs_star ?_
    | with_reducible refine Dx.rs_itemsL ?_
    | with_reducible refine Dx.rs_itemsT ?_
    | with_reducible refine Dx.rs_zipL ?_
    | with_reducible refine Dx.rs_zipS ?_
    | with_reducible refine Dx.rs_isi_non_bool ?_
    | with_reducible refine Dx.rs_isi_non_int ?_
    | with_reducible refine Dx.rs_isi_non_str ?_
    | with_reducible refine Dx.rs_isi_non_tuple ?_
    | with_reducible refine Dx.rs_isi_non_list ?_
    | with_reducible refine Dx.rs_isi_bl_bool ?_
    | with_reducible refine Dx.rs_isi_bl_int ?_
    | with_reducible refine Dx.rs_isi_bl_str ?_
    | with_reducible refine Dx.rs_isi_bl_tuple ?_
    | with_reducible refine Dx.rs_isi_bl_list ?_
    | with_reducible refine Dx.rs_isi_int_bool ?_
    | with_reducible refine Dx.rs_isi_int_int ?_
    | with_reducible refine Dx.rs_isi_int_str ?_
    | with_reducible refine Dx.rs_isi_int_tuple ?_
    | with_reducible refine Dx.rs_isi_int_list ?_
    | with_reducible refine Dx.rs_isi_str_bool ?_
    | with_reducible refine Dx.rs_isi_str_int ?_
    | with_reducible refine Dx.rs_isi_str_str ?_
    | with_reducible refine Dx.rs_isi_str_tuple ?_
    | with_reducible refine Dx.rs_isi_str_list ?_
    | with_reducible refine Dx.rs_isi_lst_bool ?_
    | with_reducible refine Dx.rs_isi_lst_int ?_
    | with_reducible refine Dx.rs_isi_lst_str ?_
    | with_reducible refine Dx.rs_isi_lst_tuple ?_
    | with_reducible refine Dx.rs_isi_lst_list ?_
    | with_reducible refine Dx.rs_isi_tup_bool ?_
    | with_reducible refine Dx.rs_isi_tup_int ?_
    | with_reducible refine Dx.rs_isi_tup_str ?_
    | with_reducible refine Dx.rs_isi_tup_tuple ?_
    | with_reducible refine Dx.rs_isi_tup_list ?_
    | with_reducible refine Dx.ss_nx ?_
    | with_reducible refine Dx.ss_bk ?_
    | with_reducible refine Dx.ss_ct ?_
    | with_reducible refine Dx.ss_seq ?_
    | with_reducible refine Dx.ss_set ?_
    | with_reducible refine Dx.ss_ret ?_
    | with_reducible refine Dx.ss_drop ?_
    | with_reducible refine Dx.ss_if ?_
    | with_reducible refine Dx.ss_par ?_
    | with_reducible refine Dx.ss_par3 ?_
    | with_reducible refine Dx.ss_aug ?_
    | ((with_reducible apply Dx.rs_var); · (rfl))
    | ((with_reducible apply Dx.rs_ixL); · (first | rfl | assumption))
    | ((with_reducible apply Dx.rs_ixF); · (first | rfl | assumption))
    | ((with_reducible apply Dx.rs_ixT); · (first | rfl | assumption))
    | ((with_reducible apply Dx.rs_fld); · (rfl))
    | ((with_reducible apply Dx.rs_isObj); · (decide))
    | ((with_reducible apply Dx.rs_mod); · (omega))
    | ((with_reducible apply Dx.rs_fdiv); · (omega))
    | ((with_reducible apply Dx.rs_addS); · ((first | exact Nat.le_of_ble_eq_true rfl | assumption | (refine Nat.le_trans (m := 100000) ?_ Dx.sz5; first | omega | (simp only [List.length_append, List.length_cons, List.length_nil, List.length_map, List.length_range, List.length_replicate, List.length_reverse, List.length_take, List.length_drop]; omega)))))
    | ((with_reducible apply Dx.rs_addT); · ((first | exact Nat.le_of_ble_eq_true rfl | assumption | (refine Nat.le_trans (m := 100000) ?_ Dx.sz5; first | omega | (simp only [List.length_append, List.length_cons, List.length_nil, List.length_map, List.length_range, List.length_replicate, List.length_reverse, List.length_take, List.length_drop]; omega)))))
    | ((with_reducible apply Dx.rs_addLL); · ((first | exact Nat.le_of_ble_eq_true rfl | assumption | (refine Nat.le_trans (m := 100000) ?_ Dx.sz5; first | omega | (simp only [List.length_append, List.length_cons, List.length_nil, List.length_map, List.length_range, List.length_replicate, List.length_reverse, List.length_take, List.length_drop]; omega)))))
    | ((with_reducible apply Dx.rs_addLO); · ((first | exact Nat.le_of_ble_eq_true rfl | assumption | (refine Nat.le_trans (m := 100000) ?_ Dx.sz5; first | omega | (simp only [List.length_append, List.length_cons, List.length_nil, List.length_map, List.length_range, List.length_replicate, List.length_reverse, List.length_take, List.length_drop]; omega)))))
    | ((with_reducible apply Dx.rs_lenS); · ((first | exact Nat.le_of_ble_eq_true rfl | assumption | (refine Nat.le_trans (m := 100000) ?_ Dx.sz5; first | omega | (simp only [List.length_append, List.length_cons, List.length_nil, List.length_map, List.length_range, List.length_replicate, List.length_reverse, List.length_take, List.length_drop]; omega)))))
    | ((with_reducible apply Dx.rs_slS); · ((first | exact Nat.le_of_ble_eq_true rfl | assumption | (refine Nat.le_trans (m := 100000) ?_ Dx.sz5; first | omega | (simp only [List.length_append, List.length_cons, List.length_nil, List.length_map, List.length_range, List.length_replicate, List.length_reverse, List.length_take, List.length_drop]; omega)))))
    | ((with_reducible apply Dx.rs_mul); · ((first | exact Or.inl (Dx.small_of (by omega) (by omega)) | exact Or.inr (Dx.small_of (by omega) (by omega)))))
    | ((with_reducible apply Dx.rs_strI); · (omega))
    | ((with_reducible apply Dx.rs_fmtI); · (omega))
    | ((with_reducible apply Dx.rs_fmtS); · ((first | exact Nat.le_of_ble_eq_true rfl | assumption | (refine Nat.le_trans (m := 100000) ?_ Dx.sz5; first | omega | (simp only [List.length_append, List.length_cons, List.length_nil, List.length_map, List.length_range, List.length_replicate, List.length_reverse, List.length_take, List.length_drop]; omega)))))
    | ((with_reducible apply Dx.rs_split); · (refine And.intro (by decide) ?_; (first | exact Nat.le_of_ble_eq_true rfl | assumption | (refine Nat.le_trans (m := 100000) ?_ Dx.sz5; first | omega | (simp only [List.length_append, List.length_cons, List.length_nil, List.length_map, List.length_range, List.length_replicate, List.length_reverse, List.length_take, List.length_drop]; omega)))))
    | ((with_reducible apply Dx.ss_app); · (rfl))
    | (with_reducible refine Dx.rs_tup ?_)
    | (with_reducible refine Dx.rs_lst ?_)
    | ((with_reducible refine And.intro (a := List.length _ ≤ PySem.sizeLine) ?_ ?_); · ((first | exact Nat.le_of_ble_eq_true rfl | assumption | (refine Nat.le_trans (m := 100000) ?_ Dx.sz5; first | omega | (simp only [List.length_append, List.length_cons, List.length_nil, List.length_map, List.length_range, List.length_replicate, List.length_reverse, List.length_take, List.length_drop]; omega)))))
    | ((with_reducible refine And.intro (a := List.length _ < PySem.sizeLine) ?_ ?_); · (first | exact Nat.le_of_ble_eq_true rfl | (refine Nat.lt_of_lt_of_le (m := 100000) ?_ Dx.sz5; first | omega | (simp only [List.length_append, List.length_cons, List.length_nil, List.length_map, List.length_range, List.length_replicate, List.length_reverse, List.length_take, List.length_drop]; omega))))))
local macro_rules
  | `(tactic| array_mem_dec) => `(tactic| repeat (first
    | with_reducible refine Dx.ss_ifo ?_
    | with_reducible refine Dx.ss_ifa ?_
    | with_reducible refine Dx.rs_andc ?_
    | with_reducible refine Dx.rs_orc ?_
    | with_reducible refine Dx.rs_andVc ?_
    | with_reducible refine Dx.rs_orVc ?_
    | ((with_reducible apply Dx.rs_asSJ); · (first | omega | (simp only [List.length_append, List.length_cons, List.length_nil, List.length_map, List.length_range, List.length_replicate, List.length_reverse, List.length_take, List.length_drop]; omega)))
    | with_reducible refine Dx.rs_c ?_
    | with_reducible refine Dx.rs_op ?_
    | with_reducible refine Dx.rs_str ?_
    | with_reducible refine Dx.rs_asS ?_
    | with_reducible refine Dx.rs_un ?_
    | with_reducible refine Dx.rs_nil ?_
    | with_reducible refine Dx.rs_cons ?_
    | with_reducible refine Dx.rs_call ?_
    | with_reducible refine Dx.rs_T ?_
    | with_reducible refine Dx.rs_asB ?_
    | with_reducible refine Dx.rs_asI ?_
    | with_reducible refine Dx.rs_not ?_
    | with_reducible refine Dx.rs_notV ?_
    | with_reducible refine Dx.rs_chain ?_
    | with_reducible refine Dx.rs_noP ?_
    | with_reducible refine Dx.rs_part ?_
    | with_reducible refine Dx.rs_sl ?_
    | with_reducible refine Dx.rs_it ?_
    | with_reducible refine Dx.rs_its ?_
    | with_reducible refine Dx.rs_yes ?_
    | with_reducible refine Dx.rs_meth ?_
    | with_reducible refine Dx.rs_tru ?_
    | with_reducible refine Dx.rs_truB ?_
    | with_reducible refine Dx.rs_truI ?_
    | with_reducible refine Dx.rs_truL ?_
    | with_reducible refine Dx.rs_truT ?_
    | with_reducible refine Dx.rs_truN ?_
    | with_reducible refine Dx.rs_add ?_
    | with_reducible refine Dx.rs_sub ?_
    | with_reducible refine Dx.rs_neg ?_
    | with_reducible refine Dx.rs_eqI ?_
    | with_reducible refine Dx.rs_neI ?_
    | with_reducible refine Dx.rs_eqS ?_
    | with_reducible refine Dx.rs_neS ?_
    | with_reducible refine Dx.rs_eqB ?_
    | with_reducible refine Dx.rs_neB ?_
    | with_reducible refine Dx.rs_lt ?_
    | with_reducible refine Dx.rs_le ?_
    | with_reducible refine Dx.rs_gt ?_
    | with_reducible refine Dx.rs_ge ?_
    | with_reducible refine Dx.rs_is ?_
    | with_reducible refine Dx.rs_isn ?_
    | with_reducible refine Dx.rs_inS ?_
    | with_reducible refine Dx.rs_ninS ?_
    | with_reducible refine Dx.rs_lenL ?_
    | with_reducible refine Dx.rs_lenF ?_
    | with_reducible refine Dx.rs_lenT ?_
    | with_reducible refine Dx.rs_int ?_
    | with_reducible refine Dx.rs_intB ?_
    | with_reducible refine Dx.rs_abs ?_
    | with_reducible refine Dx.rs_listL ?_
    | with_reducible refine Dx.rs_listT ?_
    | with_reducible refine Dx.rs_tupL ?_
    | with_reducible refine Dx.rs_tupT ?_
    | with_reducible refine Dx.rs_slL ?_
    | with_reducible refine Dx.rs_slO ?_
    | with_reducible refine Dx.rs_slT ?_
    | with_reducible refine Dx.rs_itsL ?_
    | with_reducible refine Dx.rs_itsT ?_
    | with_reducible refine Dx.rs_itsS ?_
    | with_reducible refine Dx.rs_enL ?_
    | with_reducible refine Dx.rs_enT ?_
    | with_reducible refine Dx.rs_enS ?_
    | with_reducible refine Dx.rs_ints ?_
    | with_reducible refine Dx.rs_sortI ?_
    | with_reducible refine Dx.rs_sum ?_
    | with_reducible refine Dx.rs_g2 ?_
    | with_reducible refine Dx.rs_all ?_
    | with_reducible refine Dx.rs_disp ?_
    | with_reducible refine Dx.rs_pnil ?_
    | with_reducible refine Dx.rs_pcons ?_
    | with_reducible refine Dx.rs_jnil ?_
    | with_reducible refine Dx.rs_jcons ?_
    | with_reducible refine Dx.rs_dJoin ?_
    | with_reducible refine Dx.rs_ord ?_
    | with_reducible refine Dx.rs_leS ?_
    | with_reducible refine Dx.rs_inKI ?_
    | with_reducible refine Dx.rs_inI ?_
    | with_reducible refine Dx.rs_ninI ?_
    | with_reducible refine Dx.rs_inTk ?_
    | with_reducible refine Dx.rs_getET ?_
    | with_reducible refine Dx.rs_dD0 ?_
    | with_reducible refine Dx.rs_listTk ?_
    | with_reducible refine Dx.rs_lenTk ?_
    | with_reducible refine Dx.rs_itTk ?_
    | with_reducible refine Dx.rs_end ?_
    | with_reducible refine Dx.rs_start ?_
    | with_reducible refine Dx.rs_star ?_
    | with_reducible refine Dx.rs_itemsL ?_
    | with_reducible refine Dx.rs_itemsT ?_
    | with_reducible refine Dx.rs_zipL ?_
    | with_reducible refine Dx.rs_zipS ?_
    | with_reducible refine Dx.rs_isi_non_bool ?_
    | with_reducible refine Dx.rs_isi_non_int ?_
    | with_reducible refine Dx.rs_isi_non_str ?_
    | with_reducible refine Dx.rs_isi_non_tuple ?_
    | with_reducible refine Dx.rs_isi_non_list ?_
    | with_reducible refine Dx.rs_isi_bl_bool ?_
    | with_reducible refine Dx.rs_isi_bl_int ?_
    | with_reducible refine Dx.rs_isi_bl_str ?_
    | with_reducible refine Dx.rs_isi_bl_tuple ?_
    | with_reducible refine Dx.rs_isi_bl_list ?_
    | with_reducible refine Dx.rs_isi_int_bool ?_
    | with_reducible refine Dx.rs_isi_int_int ?_
    | with_reducible refine Dx.rs_isi_int_str ?_
    | with_reducible refine Dx.rs_isi_int_tuple ?_
    | with_reducible refine Dx.rs_isi_int_list ?_
    | with_reducible refine Dx.rs_isi_str_bool ?_
    | with_reducible refine Dx.rs_isi_str_int ?_
    | with_reducible refine Dx.rs_isi_str_str ?_
    | with_reducible refine Dx.rs_isi_str_tuple ?_
    | with_reducible refine Dx.rs_isi_str_list ?_
    | with_reducible refine Dx.rs_isi_lst_bool ?_
    | with_reducible refine Dx.rs_isi_lst_int ?_
    | with_reducible refine Dx.rs_isi_lst_str ?_
    | with_reducible refine Dx.rs_isi_lst_tuple ?_
    | with_reducible refine Dx.rs_isi_lst_list ?_
    | with_reducible refine Dx.rs_isi_tup_bool ?_
    | with_reducible refine Dx.rs_isi_tup_int ?_
    | with_reducible refine Dx.rs_isi_tup_str ?_
    | with_reducible refine Dx.rs_isi_tup_tuple ?_
    | with_reducible refine Dx.rs_isi_tup_list ?_
    | with_reducible refine Dx.ss_nx ?_
    | with_reducible refine Dx.ss_bk ?_
    | with_reducible refine Dx.ss_ct ?_
    | with_reducible refine Dx.ss_seq ?_
    | with_reducible refine Dx.ss_set ?_
    | with_reducible refine Dx.ss_ret ?_
    | with_reducible refine Dx.ss_drop ?_
    | with_reducible refine Dx.ss_if ?_
    | with_reducible refine Dx.ss_par ?_
    | with_reducible refine Dx.ss_par3 ?_
    | with_reducible refine Dx.ss_aug ?_
    | ((with_reducible apply Dx.rs_var); · (rfl))
    | ((with_reducible apply Dx.rs_ixL); · (first | rfl | assumption))
    | ((with_reducible apply Dx.rs_ixF); · (first | rfl | assumption))
    | ((with_reducible apply Dx.rs_ixT); · (first | rfl | assumption))
    | ((with_reducible apply Dx.rs_fld); · (rfl))
    | ((with_reducible apply Dx.rs_isObj); · (decide))
    | ((with_reducible apply Dx.rs_mod); · (omega))
    | ((with_reducible apply Dx.rs_fdiv); · (omega))
    | ((with_reducible apply Dx.rs_addS); · ((first | exact Nat.le_of_ble_eq_true rfl | assumption | (refine Nat.le_trans (m := 100000) ?_ Dx.sz5; first | omega | (simp only [List.length_append, List.length_cons, List.length_nil, List.length_map, List.length_range, List.length_replicate, List.length_reverse, List.length_take, List.length_drop]; omega)))))
    | ((with_reducible apply Dx.rs_addT); · ((first | exact Nat.le_of_ble_eq_true rfl | assumption | (refine Nat.le_trans (m := 100000) ?_ Dx.sz5; first | omega | (simp only [List.length_append, List.length_cons, List.length_nil, List.length_map, List.length_range, List.length_replicate, List.length_reverse, List.length_take, List.length_drop]; omega)))))
    | ((with_reducible apply Dx.rs_addLL); · ((first | exact Nat.le_of_ble_eq_true rfl | assumption | (refine Nat.le_trans (m := 100000) ?_ Dx.sz5; first | omega | (simp only [List.length_append, List.length_cons, List.length_nil, List.length_map, List.length_range, List.length_replicate, List.length_reverse, List.length_take, List.length_drop]; omega)))))
    | ((with_reducible apply Dx.rs_addLO); · ((first | exact Nat.le_of_ble_eq_true rfl | assumption | (refine Nat.le_trans (m := 100000) ?_ Dx.sz5; first | omega | (simp only [List.length_append, List.length_cons, List.length_nil, List.length_map, List.length_range, List.length_replicate, List.length_reverse, List.length_take, List.length_drop]; omega)))))
    | ((with_reducible apply Dx.rs_lenS); · ((first | exact Nat.le_of_ble_eq_true rfl | assumption | (refine Nat.le_trans (m := 100000) ?_ Dx.sz5; first | omega | (simp only [List.length_append, List.length_cons, List.length_nil, List.length_map, List.length_range, List.length_replicate, List.length_reverse, List.length_take, List.length_drop]; omega)))))
    | ((with_reducible apply Dx.rs_slS); · ((first | exact Nat.le_of_ble_eq_true rfl | assumption | (refine Nat.le_trans (m := 100000) ?_ Dx.sz5; first | omega | (simp only [List.length_append, List.length_cons, List.length_nil, List.length_map, List.length_range, List.length_replicate, List.length_reverse, List.length_take, List.length_drop]; omega)))))
    | ((with_reducible apply Dx.rs_mul); · ((first | exact Or.inl (Dx.small_of (by omega) (by omega)) | exact Or.inr (Dx.small_of (by omega) (by omega)))))
    | ((with_reducible apply Dx.rs_strI); · (omega))
    | ((with_reducible apply Dx.rs_fmtI); · (omega))
    | ((with_reducible apply Dx.rs_fmtS); · ((first | exact Nat.le_of_ble_eq_true rfl | assumption | (refine Nat.le_trans (m := 100000) ?_ Dx.sz5; first | omega | (simp only [List.length_append, List.length_cons, List.length_nil, List.length_map, List.length_range, List.length_replicate, List.length_reverse, List.length_take, List.length_drop]; omega)))))
    | ((with_reducible apply Dx.rs_split); · (refine And.intro (by decide) ?_; (first | exact Nat.le_of_ble_eq_true rfl | assumption | (refine Nat.le_trans (m := 100000) ?_ Dx.sz5; first | omega | (simp only [List.length_append, List.length_cons, List.length_nil, List.length_map, List.length_range, List.length_replicate, List.length_reverse, List.length_take, List.length_drop]; omega)))))
    | ((with_reducible apply Dx.ss_app); · (rfl))
    | (with_reducible refine Dx.rs_tup ?_)
    | (with_reducible refine Dx.rs_lst ?_)
    | ((with_reducible refine And.intro (a := List.length _ ≤ PySem.sizeLine) ?_ ?_); · ((first | exact Nat.le_of_ble_eq_true rfl | assumption | (refine Nat.le_trans (m := 100000) ?_ Dx.sz5; first | omega | (simp only [List.length_append, List.length_cons, List.length_nil, List.length_map, List.length_range, List.length_replicate, List.length_reverse, List.length_take, List.length_drop]; omega)))))
    | ((with_reducible refine And.intro (a := List.length _ < PySem.sizeLine) ?_ ?_); · (first | exact Nat.le_of_ble_eq_true rfl | (refine Nat.lt_of_lt_of_le (m := 100000) ?_ Dx.sz5; first | omega | (simp only [List.length_append, List.length_cons, List.length_nil, List.length_map, List.length_range, List.length_replicate, List.length_reverse, List.length_take, List.length_drop]; omega))))
    | ((refine And.intro (fun h => absurd h ?_) (fun _ => ?_)); · (first | exact Bool.false_ne_true | (simp; done) | (simp; omega)))
    | ((refine And.intro (fun _ => ?_) (fun h => absurd h ?_)); rotate_left; · (first | exact (fun h => Bool.false_ne_true h.symm) | (simp; done) | (simp; omega)))))
local macro_rules
  | `(tactic| sizeOf_list_dec) => `(tactic| repeat (first
    | ((with_reducible apply Dx.rs_asSJ); · (first | omega | (simp only [List.length_append, List.length_cons, List.length_nil, List.length_map, List.length_range, List.length_replicate, List.length_reverse, List.length_take, List.length_drop]; omega)))
    | with_reducible refine Dx.rs_c ?_
    | with_reducible refine Dx.rs_op ?_
    | with_reducible refine Dx.rs_str ?_
    | with_reducible refine Dx.rs_asS ?_
    | with_reducible refine Dx.rs_un ?_
    | with_reducible refine Dx.rs_nil ?_
    | with_reducible refine Dx.rs_cons ?_
    | with_reducible refine Dx.rs_call ?_
    | with_reducible refine Dx.rs_T ?_
    | with_reducible refine Dx.rs_asB ?_
    | with_reducible refine Dx.rs_asI ?_
    | with_reducible refine Dx.rs_not ?_
    | with_reducible refine Dx.rs_and ?_
    | with_reducible refine Dx.rs_or ?_
    | with_reducible refine Dx.rs_andV ?_
    | with_reducible refine Dx.rs_orV ?_
    | with_reducible refine Dx.rs_notV ?_
    | with_reducible refine Dx.rs_chain ?_
    | with_reducible refine Dx.rs_noP ?_
    | with_reducible refine Dx.rs_part ?_
    | with_reducible refine Dx.rs_sl ?_
    | with_reducible refine Dx.rs_it ?_
    | with_reducible refine Dx.rs_its ?_
    | with_reducible refine Dx.rs_yes ?_
    | with_reducible refine Dx.rs_meth ?_
    | with_reducible refine Dx.rs_tru ?_
    | with_reducible refine Dx.rs_truB ?_
    | with_reducible refine Dx.rs_truI ?_
    | with_reducible refine Dx.rs_truL ?_
    | with_reducible refine Dx.rs_truT ?_
    | with_reducible refine Dx.rs_truN ?_
    | with_reducible refine Dx.rs_ifx ?_
    | with_reducible refine Dx.rs_add ?_
    | with_reducible refine Dx.rs_sub ?_
    | with_reducible refine Dx.rs_neg ?_
    | with_reducible refine Dx.rs_eqI ?_
    | with_reducible refine Dx.rs_neI ?_
    | with_reducible refine Dx.rs_eqS ?_
    | with_reducible refine Dx.rs_neS ?_
    | with_reducible refine Dx.rs_eqB ?_
    | with_reducible refine Dx.rs_neB ?_
    | with_reducible refine Dx.rs_lt ?_
    | with_reducible refine Dx.rs_le ?_
    | with_reducible refine Dx.rs_gt ?_
    | with_reducible refine Dx.rs_ge ?_
    | with_reducible refine Dx.rs_is ?_
    | with_reducible refine Dx.rs_isn ?_
    | with_reducible refine Dx.rs_inS ?_
    | with_reducible refine Dx.rs_ninS ?_
    | with_reducible refine Dx.rs_lenL ?_
    | with_reducible refine Dx.rs_lenF ?_
    | with_reducible refine Dx.rs_lenT ?_
    | with_reducible refine Dx.rs_int ?_
    | with_reducible refine Dx.rs_intB ?_
    | with_reducible refine Dx.rs_abs ?_
    | with_reducible refine Dx.rs_listL ?_
    | with_reducible refine Dx.rs_listT ?_
    | with_reducible refine Dx.rs_tupL ?_
    | with_reducible refine Dx.rs_tupT ?_
    | with_reducible refine Dx.rs_slL ?_
    | with_reducible refine Dx.rs_slO ?_
    | with_reducible refine Dx.rs_slT ?_
    | with_reducible refine Dx.rs_itsL ?_
    | with_reducible refine Dx.rs_itsT ?_
    | with_reducible refine Dx.rs_itsS ?_
    | with_reducible refine Dx.rs_enL ?_
    | with_reducible refine Dx.rs_enT ?_
    | with_reducible refine Dx.rs_enS ?_
    | with_reducible refine Dx.rs_ints ?_
    | with_reducible refine Dx.rs_sortI ?_
    | with_reducible refine Dx.rs_sum ?_
    | with_reducible refine Dx.rs_g2 ?_
    | with_reducible refine Dx.rs_all ?_
    | with_reducible refine Dx.rs_disp ?_
    | with_reducible refine Dx.rs_pnil ?_
    | with_reducible refine Dx.rs_pcons ?_
    | with_reducible refine Dx.rs_jnil ?_
    | with_reducible refine Dx.rs_jcons ?_
    | with_reducible refine Dx.rs_dJoin ?_
    | with_reducible refine Dx.rs_ord ?_
    | with_reducible refine Dx.rs_leS ?_
    | with_reducible refine Dx.rs_inKI ?_
    | with_reducible refine Dx.rs_inI ?_
    | with_reducible refine Dx.rs_ninI ?_
    | with_reducible refine Dx.rs_inTk ?_
    | with_reducible refine Dx.rs_getET ?_
    | with_reducible refine Dx.rs_dD0 ?_
    | with_reducible refine Dx.rs_listTk ?_
    | with_reducible refine Dx.rs_lenTk ?_
    | with_reducible refine Dx.rs_itTk ?_
    | with_reducible refine Dx.rs_end ?_
    | with_reducible refine Dx.rs_start ?_
    | with_reducible refine Dx.rs_star ?_
    | with_reducible refine Dx.rs_itemsL ?_
    | with_reducible refine Dx.rs_itemsT ?_
    | with_reducible refine Dx.rs_zipL ?_
    | with_reducible refine Dx.rs_zipS ?_
    | with_reducible refine Dx.rs_isi_non_bool ?_
    | with_reducible refine Dx.rs_isi_non_int ?_
    | with_reducible refine Dx.rs_isi_non_str ?_
    | with_reducible refine Dx.rs_isi_non_tuple ?_
    | with_reducible refine Dx.rs_isi_non_list ?_
    | with_reducible refine Dx.rs_isi_bl_bool ?_
    | with_reducible refine Dx.rs_isi_bl_int ?_
    | with_reducible refine Dx.rs_isi_bl_str ?_
    | with_reducible refine Dx.rs_isi_bl_tuple ?_
    | with_reducible refine Dx.rs_isi_bl_list ?_
    | with_reducible refine Dx.rs_isi_int_bool ?_
    | with_reducible refine Dx.rs_isi_int_int ?_
    | with_reducible refine Dx.rs_isi_int_str ?_
    | with_reducible refine Dx.rs_isi_int_tuple ?_
    | with_reducible refine Dx.rs_isi_int_list ?_
    | with_reducible refine Dx.rs_isi_str_bool ?_
    | with_reducible refine Dx.rs_isi_str_int ?_
    | with_reducible refine Dx.rs_isi_str_str ?_
    | with_reducible refine Dx.rs_isi_str_tuple ?_
    | with_reducible refine Dx.rs_isi_str_list ?_
    | with_reducible refine Dx.rs_isi_lst_bool ?_
    | with_reducible refine Dx.rs_isi_lst_int ?_
    | with_reducible refine Dx.rs_isi_lst_str ?_
    | with_reducible refine Dx.rs_isi_lst_tuple ?_
    | with_reducible refine Dx.rs_isi_lst_list ?_
    | with_reducible refine Dx.rs_isi_tup_bool ?_
    | with_reducible refine Dx.rs_isi_tup_int ?_
    | with_reducible refine Dx.rs_isi_tup_str ?_
    | with_reducible refine Dx.rs_isi_tup_tuple ?_
    | with_reducible refine Dx.rs_isi_tup_list ?_
    | with_reducible refine Dx.ss_nx ?_
    | with_reducible refine Dx.ss_bk ?_
    | with_reducible refine Dx.ss_ct ?_
    | with_reducible refine Dx.ss_seq ?_
    | with_reducible refine Dx.ss_set ?_
    | with_reducible refine Dx.ss_ret ?_
    | with_reducible refine Dx.ss_drop ?_
    | with_reducible refine Dx.ss_if ?_
    | with_reducible refine Dx.ss_par ?_
    | with_reducible refine Dx.ss_par3 ?_
    | with_reducible refine Dx.ss_aug ?_
    | ((with_reducible apply Dx.rs_var); · (rfl))
    | ((with_reducible apply Dx.rs_ixL); · (first | rfl | assumption))
    | ((with_reducible apply Dx.rs_ixF); · (first | rfl | assumption))
    | ((with_reducible apply Dx.rs_ixT); · (first | rfl | assumption))
    | ((with_reducible apply Dx.rs_fld); · (rfl))
    | ((with_reducible apply Dx.rs_isObj); · (decide))
    | ((with_reducible apply Dx.rs_mod); · (omega))
    | ((with_reducible apply Dx.rs_fdiv); · (omega))
    | ((with_reducible apply Dx.rs_addS); · ((first | exact Nat.le_of_ble_eq_true rfl | assumption | (refine Nat.le_trans (m := 100000) ?_ Dx.sz5; first | omega | (simp only [List.length_append, List.length_cons, List.length_nil, List.length_map, List.length_range, List.length_replicate, List.length_reverse, List.length_take, List.length_drop]; omega)))))
    | ((with_reducible apply Dx.rs_addT); · ((first | exact Nat.le_of_ble_eq_true rfl | assumption | (refine Nat.le_trans (m := 100000) ?_ Dx.sz5; first | omega | (simp only [List.length_append, List.length_cons, List.length_nil, List.length_map, List.length_range, List.length_replicate, List.length_reverse, List.length_take, List.length_drop]; omega)))))
    | ((with_reducible apply Dx.rs_addLL); · ((first | exact Nat.le_of_ble_eq_true rfl | assumption | (refine Nat.le_trans (m := 100000) ?_ Dx.sz5; first | omega | (simp only [List.length_append, List.length_cons, List.length_nil, List.length_map, List.length_range, List.length_replicate, List.length_reverse, List.length_take, List.length_drop]; omega)))))
    | ((with_reducible apply Dx.rs_addLO); · ((first | exact Nat.le_of_ble_eq_true rfl | assumption | (refine Nat.le_trans (m := 100000) ?_ Dx.sz5; first | omega | (simp only [List.length_append, List.length_cons, List.length_nil, List.length_map, List.length_range, List.length_replicate, List.length_reverse, List.length_take, List.length_drop]; omega)))))
    | ((with_reducible apply Dx.rs_lenS); · ((first | exact Nat.le_of_ble_eq_true rfl | assumption | (refine Nat.le_trans (m := 100000) ?_ Dx.sz5; first | omega | (simp only [List.length_append, List.length_cons, List.length_nil, List.length_map, List.length_range, List.length_replicate, List.length_reverse, List.length_take, List.length_drop]; omega)))))
    | ((with_reducible apply Dx.rs_slS); · ((first | exact Nat.le_of_ble_eq_true rfl | assumption | (refine Nat.le_trans (m := 100000) ?_ Dx.sz5; first | omega | (simp only [List.length_append, List.length_cons, List.length_nil, List.length_map, List.length_range, List.length_replicate, List.length_reverse, List.length_take, List.length_drop]; omega)))))
    | ((with_reducible apply Dx.rs_mul); · ((first | exact Or.inl (Dx.small_of (by omega) (by omega)) | exact Or.inr (Dx.small_of (by omega) (by omega)))))
    | ((with_reducible apply Dx.rs_strI); · (omega))
    | ((with_reducible apply Dx.rs_fmtI); · (omega))
    | ((with_reducible apply Dx.rs_fmtS); · ((first | exact Nat.le_of_ble_eq_true rfl | assumption | (refine Nat.le_trans (m := 100000) ?_ Dx.sz5; first | omega | (simp only [List.length_append, List.length_cons, List.length_nil, List.length_map, List.length_range, List.length_replicate, List.length_reverse, List.length_take, List.length_drop]; omega)))))
    | ((with_reducible apply Dx.rs_split); · (refine And.intro (by decide) ?_; (first | exact Nat.le_of_ble_eq_true rfl | assumption | (refine Nat.le_trans (m := 100000) ?_ Dx.sz5; first | omega | (simp only [List.length_append, List.length_cons, List.length_nil, List.length_map, List.length_range, List.length_replicate, List.length_reverse, List.length_take, List.length_drop]; omega)))))
    | ((with_reducible apply Dx.ss_app); · (rfl))
    | (with_reducible refine Dx.rs_tup ?_)
    | (with_reducible refine Dx.rs_lst ?_)
    | ((with_reducible refine And.intro (a := List.length _ ≤ PySem.sizeLine) ?_ ?_); · ((first | exact Nat.le_of_ble_eq_true rfl | assumption | (refine Nat.le_trans (m := 100000) ?_ Dx.sz5; first | omega | (simp only [List.length_append, List.length_cons, List.length_nil, List.length_map, List.length_range, List.length_replicate, List.length_reverse, List.length_take, List.length_drop]; omega)))))
    | ((with_reducible refine And.intro (a := List.length _ < PySem.sizeLine) ?_ ?_); · (first | exact Nat.le_of_ble_eq_true rfl | (refine Nat.lt_of_lt_of_le (m := 100000) ?_ Dx.sz5; first | omega | (simp only [List.length_append, List.length_cons, List.length_nil, List.length_map, List.length_range, List.length_replicate, List.length_reverse, List.length_take, List.length_drop]; omega))))
    | ((refine And.intro (fun h => absurd h ?_) (fun _ => ?_)); · (first | exact Bool.false_ne_true | (simp; done) | (simp; omega)))
    | ((refine And.intro (fun _ => ?_) (fun h => absurd h ?_)); rotate_left; · (first | exact (fun h => Bool.false_ne_true h.symm) | (simp; done) | (simp; omega)))))
section
theorem cell_sp (ns : List Int) (k : Nat) (hk : k ≤ 1000) : Rs (F_l_cell [.fz (ns.map D.int), .int (k : Int)]) (fun d => ∃ z, d = .int z) nE := by
  refine rs_run ?_
  unfold Fb_l_cell
  array_get_dec
  refine ⟨fun h => ?_, fun h => ?_⟩
  · have h := of_decide_eq_true h
    rw [List.length_map] at h
    have hk : k < ns.length := by omega
    array_get_dec
    refine rs_ixF (d := .int ns[k]) (atI_nat (by rw [List.getElem?_map, List.getElem?_eq_getElem hk]; rfl)) ?_
    array_get_dec
    exact ⟨_, rfl⟩
  · array_get_dec
    exact ⟨_, rfl⟩
theorem row_sp (c : Int) (ls : List Int) (hl : ∀ l ∈ ls, 0 < l ∧ l < 4611686018427387904) (hn : ls.length < 10000) : Rs (F_l_row [.int c, iL ls]) (fun d => ∃ vs, d = iL vs ∧ Fit vs ls) nE := by
  refine rs_run ?_
  unfold Fb_l_row
  array_get_dec
  refine ⟨fun hc => ?_, fun hc => ?_⟩
  · array_get_dec
    refine ss_each D.int ls (fun i r => ∃ vs rest y, Fit vs (ls.take i) ∧ r = [some (.int c), some (iL ls), some (iL vs), some (.int rest), y, none, none]) ?_ ?_ ?_ ?_
    · array_get_dec; rfl
    · exact ⟨[], _, none, trivial, rfl⟩
    · rintro i l r hi ⟨vs, rest, y, hf, rfl⟩
      have hl := hl l (List.mem_of_getElem? hi)
      have hlen := hf.len
      rw [List.length_take] at hlen
      unfold Lp_l_row_1
      array_get_dec
      refine ⟨vs ++ [rest % l], rest / l, some (.int l), ?_, by simp [iL]⟩
      rw [take_snoc hi]
      exact hf.snoc (Int.emod_nonneg _ (by omega)) (Int.emod_lt_of_pos _ hl.1)
    · rintro r ⟨vs, rest, y, hf, rfl⟩
      rw [List.take_length] at hf
      array_get_dec
      exact ⟨vs, rfl, hf⟩
  · array_get_dec
    refine ss_rng ls.length (fun i r => ∃ vs y z, Fit vs (ls.take i) ∧ r = [some (.int c), some (iL ls), some (iL vs), none, none, y, z]) ?_ (by omega) ?_ ?_ ?_
    · array_get_dec
      rw [List.length_map]
    · exact ⟨[], none, none, trivial, rfl⟩
    · rintro k r hk ⟨vs, y, z, hf, rfl⟩
      have hlen := hf.len
      rw [List.length_take] at hlen
      have hg : ls[k]? = some ls[k] := List.getElem?_eq_getElem hk
      have hl := hl ls[k] (List.getElem_mem hk)
      generalize ls[k] = l at hg hl
      unfold Lp_l_row_2
      array_get_dec
      refine rs_ixL (d := .int l) (atI_nat (by rw [List.getElem?_map, hg]; rfl)) ?_
      array_get_dec
      refine ⟨vs ++ [_], _, _, ?_, by simp [iL]; exact ⟨rfl, rfl, rfl⟩⟩
      rw [take_snoc hg]
      exact hf.snoc (Int.emod_nonneg _ (by omega)) (Int.emod_lt_of_pos _ hl.1)
    · rintro r ⟨vs, y, z, hf, rfl⟩
      rw [List.take_length] at hf
      array_get_dec
      exact ⟨vs, rfl, hf⟩
theorem row_of (c : Int) (ls : List Int) {Q : D → Prop} {E : Str → List Str → List D → Prop} (hl : ∀ l ∈ ls, 0 < l ∧ l < 4611686018427387904) (hn : ls.length < 10000) (q : ∀ vs, Fit vs ls → Q (iL vs)) : Rs (F_l_row [.int c, iL ls]) Q E := (row_sp c ls hl hn).imp fun d ⟨vs, e, h⟩ => by subst e; exact q vs h
def wD (w : List Nat) : D := .str (Sg w)
theorem fit_drop2 : ∀ (n : Nat) {vs ls : List Int}, Fit vs ls → Fit (vs.drop n) (ls.drop n)
  | 0, vs, ls, h => h
  | n + 1, vs, [], h => by rw [h.nil]; trivial
  | n + 1, vs, l :: ls, h => by
    obtain ⟨v, us, rfl, _, _, h⟩ := h.cons
    exact fit_drop2 n h
theorem fit_mem : ∀ {vs ls : List Int} {b : Int}, Fit vs ls → (∀ l ∈ ls, l = b) → ∀ v ∈ vs, 0 ≤ v ∧ v < b
  | vs, [], b, h, _, v, hv => by rw [h.nil] at hv; cases hv
  | vs, l :: ls, b, h, hb, v, hv => by
    obtain ⟨v0, us, rfl, h1, h2, h⟩ := h.cons
    rcases List.mem_cons.mp hv with rfl | hv
    · have := hb l (List.mem_cons_self ..); omega
    · exact fit_mem h (fun l hl => hb l (List.mem_cons_of_mem _ hl)) v hv
theorem word_sp {r : Rho} {its : Rho → Res (List D)} {a m : Nat} {A : List Nat} {ps : List Int} {Q : D → Prop} {E : Str → List Str → List D → Prop} (hA : A.length ≤ 1000) (hps : ∀ p ∈ ps, 0 ≤ p ∧ p < A.length) (hl : ps.length ≤ 1000) (hi : Rs (its r) (fun ds => ds = ps.map D.int) nE)
    (ha : r[a]? = some (some (wD A))) (hm : m < r.length) (hne : a ≠ m) (q : Q (wD (ps.map fun p => A.getD p.toNat 0))) : Rs (dStr joinD (dC (.str (Sg []))) (dLc its (tgN m) dYes (dOp ixD (dVar a) (dVar m)) [m]) r) Q E := by
  refine rs_str (rs_c (rs_asS ?_))
  refine rs_lc D.int (fun p => .str (Sg [A.getD p.toNat 0])) ps (hi.impE (fun _ z => z) fun _ _ _ z => z.elim) (Nat.le_trans (show _ ≤ 100000 by omega) sz5) (fun p hp => ⟨r.set m (some (.int p)), ?_, rfl, ?_⟩) ?_
  · show Res.ok ((r.set m none).set m (some (.int p))) = _
    rw [List.set_set]
  · have hp := hps p hp
    have hlt : p.toNat < A.length := by omega
    refine rs_op (rs_var (d := wD A) (by rw [List.getElem?_set_ne (Ne.symm hne)]; exact ha) (rs_var (d := .int p) (by rw [List.getElem?_set_self hm]) ?_))
    refine rs_ixS (n := A.getD p.toNat 0) ⟨Nat.le_trans (show _ ≤ 100000 by omega) sz5, ?_⟩ rfl
    exact at_pos hp.1 (by rw [List.getD_eq_getElem?_getD, List.getElem?_eq_getElem hlt]; rfl)
  · have e : (ps.map fun p => D.str (Sg [A.getD p.toNat 0])) = (ps.map fun p => A.getD p.toNat 0).map fun n => .str (Sg [n]) := by rw [List.map_map]; rfl
    rw [e]
    exact rs_joinC (by rw [List.length_map]; omega) q
/-- a name -/
def Nm (w : List Nat) : Prop := 0 < w.length ∧ w.length ≤ 8 ∧ ∀ c ∈ w, 97 ≤ c ∧ c ≤ 122
theorem pick_mem {A : List Nat} {ps : List Int} (hps : ∀ p ∈ ps, 0 ≤ p ∧ p < A.length) : ∀ c ∈ ps.map fun p => A.getD p.toNat 0, c ∈ A := fun c hc => by
  obtain ⟨p, hp, rfl⟩ := List.mem_map.mp hc
  have := hps p hp
  have hlt : p.toNat < A.length := by omega
  rw [List.getD_eq_getElem?_getD, List.getElem?_eq_getElem hlt]
  exact List.getElem_mem hlt
def brk (c : Nat) : List Nat → Option (List Nat × List Nat)
  | [] => none
  | x :: r => if x = c then some ([], r) else match brk c r with
    | some (p, q) => some (x :: p, q)
    | none => none
theorem brk_none {c : Nat} : ∀ {a : List Nat}, brk c a = none → c ∉ a
  | [], _ => by simp
  | x :: r, h => by
    unfold brk at h
    by_cases hx : x = c
    · rw [if_pos hx] at h; cases h
    · rw [if_neg hx] at h
      cases hr : brk c r with
      | none =>
        have := brk_none hr
        simp [this, Ne.symm hx]
      | some y => rw [hr] at h; cases h
theorem brk_some {c : Nat} : ∀ {a p q : List Nat}, brk c a = some (p, q) → a = p ++ c :: q ∧ c ∉ p
  | [], _, _, h => by cases h
  | x :: r, p, q, h => by
    unfold brk at h
    by_cases hx : x = c
    · rw [if_pos hx] at h; cases h
      subst hx
      simp
    · rw [if_neg hx] at h
      cases hr : brk c r with
      | none => rw [hr] at h; cases h
      | some y =>
        obtain ⟨p', q'⟩ := y
        rw [hr] at h
        cases h
        obtain ⟨h1, h2⟩ := brk_some hr
        exact ⟨by rw [h1]; rfl, by simp [h2, Ne.symm hx]⟩
theorem at_one {a : List Nat} {c i : Nat} : PySem.StrLaws.At (Sg a) (Sg [c]) (Sg a).length i ↔ a[i]? = some c := by
  unfold PySem.StrLaws.At
  rw [PySem.StrLaws.subAt_eq, ST_len, ST_len]
  show (i + 1 ≤ a.length ∧ ((a.drop i).take 1 == [c]) = true) ↔ _
  constructor
  · rintro ⟨h1, h2⟩
    have h2 := eq_of_beq h2
    rw [List.getElem?_eq_getElem (by omega)]
    rw [List.drop_eq_getElem_cons (by omega), List.take_succ_cons, List.take_zero] at h2
    exact congrArg some (List.cons.inj h2).1
  · intro h
    obtain ⟨h1, h2⟩ := List.getElem?_eq_some_iff.mp h
    refine ⟨h1, ?_⟩
    rw [List.drop_eq_getElem_cons h1, h2]
    simp
theorem find_brk {c : Nat} {a : List Nat} : PySem.Txt.find (Sg a) (Sg [c]) = match brk c a with
    | none => -1
    | some (p, _) => (p.length : Int) := by
  rcases PyProof.Rows.find_whole (Sg a) (Sg [c]) with ⟨h1, h2⟩ | ⟨i, h1, h2, h3⟩
  · rw [h1]
    cases hb : brk c a with
    | none => rfl
    | some y =>
      obtain ⟨p, q⟩ := y
      obtain ⟨e, hp⟩ := brk_some hb
      refine absurd (at_one.mpr ?_) (h2 p.length)
      rw [e, List.getElem?_append_right (by omega)]
      simp
  · rw [h1]
    have h2 := at_one.mp h2
    cases hb : brk c a with
    | none => exact absurd (List.mem_of_getElem? h2) (brk_none hb)
    | some y =>
      obtain ⟨p, q⟩ := y
      obtain ⟨e, hp⟩ := brk_some hb
      dsimp only
      have hi : i = p.length := by
        by_cases h : i < p.length
        · rw [e, List.getElem?_append_left h] at h2
          exact absurd (List.mem_of_getElem? h2) hp
        · by_cases h' : p.length < i
          · refine absurd (at_one.mpr ?_) (h3 p.length h')
            rw [e, List.getElem?_append_right (by omega)]
            simp
          · omega
      rw [hi]
def fndI (a : List Nat) (c : Nat) : Int := match brk c a with
    | none => -1
    | some (p, _) => (p.length : Int)
theorem rs_find {a : List Nat} {c : Nat} {Q : D → Prop} {E : Str → List Str → List D → Prop} (q : Q (.int (fndI a c))) : Rs (findD (.str (Sg a)) (.str (Sg [c]))) Q E := by
  show Q (D.int (PySem.Txt.find (Sg a) (Sg [c])))
  rw [find_brk]
  exact q
theorem part_brk {a : List Nat} {c : Nat} : PySem.Txt.partition (Sg a) (Sg [c]) = match brk c a with
    | none => (Sg a, Sg [], Sg [])
    | some (p, q) => (Sg p, Sg [c], Sg q) := by
  cases hb : brk c a with
  | none => exact TL.partition_none (y := Sg [c]) (S := []) rfl (brk_none hb)
  | some y =>
    obtain ⟨p, q⟩ := y
    obtain ⟨e, hp⟩ := brk_some hb
    have := TL.partition_app (y := Sg [c]) (S := []) rfl (a := Sg p) (b := Sg q) hp
    rw [ST_app, ST_app] at this
    subst e
    rw [show p ++ c :: q = p ++ [c] ++ q by simp]
    exact this
theorem rs_partB {a : List Nat} {c : Nat} {Q : D → Prop} {E : Str → List Str → List D → Prop} (h : a.length ≤ sizeLine) (q : Q (match brk c a with
    | none => .tup [wD a, wD [], wD []]
    | some (p, q) => .tup [wD p, wD [c], wD q])) : Rs (partD (.str (Sg a)) (.str (Sg [c]))) Q E := by
  unfold partD
  refine rs_guard ⟨rfl, by rw [ST_len]; exact h⟩ ?_
  rw [part_brk]
  cases hb : brk c a with
  | none => rw [hb] at q; exact q
  | some y => obtain ⟨p, r⟩ := y; rw [hb] at q; exact q
end
section
theorem low_mem {n : Nat} : n ∈ [97, 98, 99, 100, 101, 102, 103, 104, 105, 106, 107, 108, 109, 110, 111, 112, 113, 114, 115, 116, 117, 118, 119, 120, 121, 122] ↔ 97 ≤ n ∧ n ≤ 122 := by
  constructor
  · intro h
    have : ∀ m ∈ [97, 98, 99, 100, 101, 102, 103, 104, 105, 106, 107, 108, 109, 110, 111, 112, 113, 114, 115, 116, 117, 118, 119, 120, 121, 122], 97 ≤ m ∧ m ≤ 122 := by decide
    exact this n h
  · intro h
    have : ∀ m : Fin 26, 97 + m.1 ∈ [97, 98, 99, 100, 101, 102, 103, 104, 105, 106, 107, 108, 109, 110, 111, 112, 113, 114, 115, 116, 117, 118, 119, 120, 121, 122] := by decide
    have := this ⟨n - 97, by omega⟩
    rw [show 97 + (n - 97) = n by omega] at this
    exact this
def lowB (w : List Nat) : Bool := w.all fun c => decide (97 ≤ c ∧ c ≤ 122)
def nmB (w : List Nat) : Bool := decide (0 < w.length ∧ w.length ≤ 8) && lowB w
theorem lowB_iff {w : List Nat} : lowB w = true ↔ ∀ c ∈ w, 97 ≤ c ∧ c ≤ 122 := by
  unfold lowB
  rw [List.all_eq_true]
  exact ⟨fun h c hc => of_decide_eq_true (h c hc), fun h c hc => decide_eq_true (h c hc)⟩
theorem nmB_iff {w : List Nat} : nmB w = true ↔ Nm w := by
  unfold nmB Nm
  rw [Bool.and_eq_true, decide_eq_true_eq, lowB_iff, and_assoc]
theorem low_no {w : List Nat} {c i : Nat} (hc : w[i]? = some c) (h : ¬ (97 ≤ c ∧ c ≤ 122)) : lowB w = false := by
  cases e : lowB w with
  | false => rfl
  | true => exact absurd (lowB_iff.mp e c (List.mem_of_getElem? hc)) h
theorem is_name_eq {w : List Nat} (hl : w.length ≤ 10000) : F_is_name [wD w] = .ok (.bl (nmB w)) := Rs.eq (by
  refine rs_run ?_
  unfold Fb_is_name
  show Ss (seqF _ _ [some (wD w), none]) _ _ _ _ _
  refine ss_seq (ss_if (rs_not (rs_T (rs_chain (rs_c (rs_call (rs_cons (rs_var rfl (rs_nil (rs_lenS (Nat.le_trans (show _ ≤ 100000 by omega) sz5) (rs_le (rs_asB (rs_c (rs_le (rs_asB (rs_asB ⟨fun z => ?_, fun z => ?_⟩))))))))))))))))
  · refine ss_ret (rs_c ?_)
    show D.bl false = D.bl (nmB w)
    congr 1
    unfold nmB
    have : ¬ (0 < w.length ∧ w.length ≤ 8) := fun h => by
      have : (decide ((1 : Int) ≤ (w.length : Int)) && decide ((w.length : Int) ≤ 8)) = true := by
        rw [Bool.and_eq_true]; exact ⟨decide_eq_true (by omega), decide_eq_true (by omega)⟩
      rw [this] at z
      cases z
    rw [decide_eq_false this]
    rfl
  · have hw : 0 < w.length ∧ w.length ≤ 8 := by
      have z : (decide ((1 : Int) ≤ (w.length : Int)) && decide ((w.length : Int) ≤ 8)) = true := by
        cases h : (decide ((1 : Int) ≤ (w.length : Int)) && decide ((w.length : Int) ≤ 8)) with
        | true => rfl
        | false => rw [h] at z; cases z
      rw [Bool.and_eq_true] at z
      have h1 := of_decide_eq_true z.1
      have h2 := of_decide_eq_true z.2
      omega
    have hn : nmB w = lowB w := by unfold nmB; rw [decide_eq_true hw]; rfl
    rw [hn]
    refine ss_nx ?_
    refine ss_seq (ss_for (fun i r => (∃ x, r = [some (wD w), x]) ∧ ∀ c ∈ w.take i, 97 ≤ c ∧ c ≤ 122) (rs_it (rs_var rfl (rs_itsS ⟨⟨⟨_, rfl⟩, by simp⟩, ?_, ?_⟩))))
    · rintro i d r hd ⟨⟨x, rfl⟩, hi⟩
      rw [List.getElem?_map] at hd
      obtain ⟨c, hc, rfl⟩ := Option.map_eq_some_iff.mp hd
      refine ⟨_, rfl, ?_⟩
      unfold Lp_is_name_1
      refine ss_if (rs_T (rs_op (rs_var rfl (rs_c (rs_ninS (rs_asB ⟨fun z => ?_, fun z => ?_⟩))))))
      · refine ss_ret (rs_c ?_)
        rw [low_no hc fun h => by rw [decide_eq_true (low_mem.mpr h)] at z; cases z]
      · refine ss_nx ⟨⟨_, rfl⟩, fun c' hc' => ?_⟩
        rw [take_snoc hc] at hc'
        rcases List.mem_append.mp hc' with h | h
        · exact hi c' h
        · rw [List.mem_singleton.mp h]
          refine low_mem.mp ?_
          by_cases m : c ∈ [97, 98, 99, 100, 101, 102, 103, 104, 105, 106, 107, 108, 109, 110, 111, 112, 113, 114, 115, 116, 117, 118, 119, 120, 121, 122]
          · exact m
          · rw [decide_eq_false m] at z; cases z
    · rintro r ⟨⟨x, rfl⟩, hi⟩
      rw [List.length_map, List.take_length] at hi
      refine ss_ret (rs_c ?_)
      rw [lowB_iff.mpr hi])
abbrev TT := List Nat × List Nat
def okKd (w : List Nat) : Bool := decide (w = [42]) || nmB w
def testP (w : List Nat) : Option TT := match brk 46 w with
  | none => if okKd w = true then some (w, []) else none
  | some (p, q) => if (okKd p && nmB q) = true then some (p, q) else none
def ttD (t : TT) : D := .tup [wD t.1, wD t.2]
theorem brk_len {c : Nat} {a p q : List Nat} (h : brk c a = some (p, q)) : p.length ≤ a.length ∧ q.length ≤ a.length := by
  obtain ⟨e, _⟩ := brk_some h
  rw [e, List.length_append, List.length_cons]
  omega
theorem read_test_eq {w : List Nat} (hl : w.length ≤ 10000) : F_read_test [wD w] = .ok (match testP w with
    | none => .non
    | some t => ttD t) := Rs.eq (by
  refine rs_run ?_
  unfold Fb_read_test
  show Ss (seqF _ _ [some (wD w), none, none, none]) _ _ _ _ _
  unfold testP
  refine ss_seq (ss_asg (rs_str (rs_var rfl (rs_asS (rs_c (rs_partB (Nat.le_trans (show _ ≤ 100000 by omega) sz5) ?_))))))
  cases hb : brk 46 w with
  | none =>
    refine ⟨[some (wD w), some (wD w), some (wD []), some (wD [])], rfl, ?_⟩
    refine ss_seq (ss_if (rs_and (rs_T (rs_op (rs_var rfl (rs_c (rs_neS (rs_asB (rs_not (rs_T (rs_call (rs_cons (rs_var (d := wD w) rfl (rs_nil (Rs.of (is_name_eq hl) (rs_asB ⟨fun z => ?_, fun z => ?_⟩))))))))))))))))
    · have : okKd w = false := by
        unfold okKd
        cases h1 : decide (w = [42]) <;> cases h2 : nmB w <;> simp [h1, h2] at z ⊢
      dsimp only
      rw [this]
      exact ss_ret (rs_c rfl)
    · have : okKd w = true := by
        unfold okKd
        cases h1 : decide (w = [42]) <;> cases h2 : nmB w <;> simp [h1, h2] at z ⊢
      dsimp only
      rw [this]
      refine ss_nx (ss_seq (ss_if (rs_andc (rs_T (rs_op (rs_var rfl (rs_c (rs_neS (rs_asB ⟨fun z => by simp at z, fun _ => ⟨fun z => (by cases z), fun _ => ss_nx ?_⟩⟩)))))))))
      exact ss_ret (rs_tup (rs_cons (rs_var rfl (rs_cons (rs_var rfl (rs_nil ⟨Nat.le_of_ble_eq_true rfl, rfl⟩))))))
  | some y =>
    obtain ⟨p, q⟩ := y
    obtain ⟨hp, hq⟩ := brk_len hb
    dsimp only
    refine ⟨[some (wD w), some (wD p), some (wD [46]), some (wD q)], rfl, ?_⟩
    refine ss_seq (ss_if (rs_and (rs_T (rs_op (rs_var rfl (rs_c (rs_neS (rs_asB (rs_not (rs_T (rs_call (rs_cons (rs_var (d := wD p) rfl (rs_nil (Rs.of (is_name_eq (by omega)) (rs_asB ⟨fun z => ?_, fun z => ?_⟩))))))))))))))))
    · have : okKd p = false := by
        unfold okKd
        cases h1 : decide (p = [42]) <;> cases h2 : nmB p <;> simp [h1, h2] at z ⊢
      rw [this]
      exact ss_ret (rs_c rfl)
    · have : okKd p = true := by
        unfold okKd
        cases h1 : decide (p = [42]) <;> cases h2 : nmB p <;> simp [h1, h2] at z ⊢
      rw [this]
      refine ss_nx (ss_seq (ss_if (rs_andc (rs_T (rs_op (rs_var rfl (rs_c (rs_neS (rs_asB ⟨fun _ => rs_not (rs_T (rs_call (rs_cons (rs_var (d := wD q) rfl (rs_nil (Rs.of (is_name_eq (by omega)) (rs_asB ⟨fun z => ?_, fun z => ss_nx ?_⟩))))))), fun z => by simp at z⟩)))))))))
      · have : nmB q = false := by cases h : nmB q <;> simp [h] at z ⊢
        rw [this]
        exact ss_ret (rs_c rfl)
      · have : nmB q = true := by cases h : nmB q <;> simp [h] at z ⊢
        rw [this]
        exact ss_ret (rs_tup (rs_cons (rs_var rfl (rs_cons (rs_var rfl (rs_nil ⟨Nat.le_of_ble_eq_true rfl, rfl⟩)))))))
inductive Ln where
  | st | an | pa | el
  deriving DecidableEq
def lnW : Ln → List Nat
  | .st => [115, 116, 97, 114, 116]
  | .an => [97, 110, 99, 101, 115, 116, 111, 114]
  | .pa => [112, 97, 114, 101, 110, 116]
  | .el => [101, 108, 100, 101, 114]
theorem lnW_an {k : Ln} : lnW k = [97, 110, 99, 101, 115, 116, 111, 114] ↔ k = .an := by cases k <;> decide
def lkW (w : List Nat) : Option Ln := if w = [62] then some .pa else if w = [43] then some .el else none
theorem look_links (w : List Nat) : lookD md_LINKS (Sg w) = (lkW w).map fun k => wD (lnW k) := by
  unfold md_LINKS lkW
  show (if Sg [62] = Sg w then _ else if Sg [43] = Sg w then _ else none) = _
  by_cases h1 : w = [62]
  · subst h1; rfl
  · rw [if_neg fun z => h1 (ST_inj.mp z).symm, if_neg h1]
    by_cases h2 : w = [43]
    · subst h2; rfl
    · rw [if_neg fun z => h2 (ST_inj.mp z).symm, if_neg h2]; rfl
theorem rs_mdIn {rows : List (Str × D)} {z : Str} {Q : D → Prop} {E : Str → List Str → List D → Prop} (q : Q (.bl (lookD rows z).isSome)) : Rs (mdIn false rows (.str z)) Q E := q
theorem rs_mdGet {rows : List (Str × D)} {z : Str} {d : D} {Q : D → Prop} {E : Str → List Str → List D → Prop} (h : lookD rows z = some d) (q : Q d) : Rs (mdGet rows (.str z)) Q E := by
  unfold mdGet; dsimp only; rw [h]; exact q
def rdP : List (List Nat) → Ln → List TT → List Ln → Option (List TT × List Ln × Ln)
  | [], k, ts, ls => some (ts, ls, k)
  | w :: ws, k, ts, ls => if k = .an ∧ (lkW w).isSome = true then rdP ws ((lkW w).getD .st) ts ls else match testP w with
    | none => none
    | some t => rdP ws .an (ts ++ [t]) (ls ++ [k])
def readT (l : List Nat) : Option (List TT × List Ln) := match rdP (spc 32 l) .st [] [] with
  | some (ts, ls, k) => if k = .an ∧ ts.length ≤ 4 then some (ts, ls) else none
  | none => none
theorem spc_ln {c : Nat} {l w : List Nat} (h : w ∈ spc c l) : w.length ≤ l.length := by
  have : ∀ (l acc : List Nat), ∀ w ∈ TL.spl [c] 0 acc l, w.length ≤ acc.length + l.length := by
    intro l
    induction l with
    | nil => intro acc w hw; rw [TL.spl_nil] at hw; rw [List.mem_singleton.mp hw]; simp
    | cons x r ih =>
      intro acc w hw
      rw [spl_cons] at hw
      by_cases hx : x = c
      · rw [if_pos hx] at hw
        rcases List.mem_cons.mp hw with rfl | hw
        · omega
        · have := ih [] w hw; simp at this ⊢; omega
      · rw [if_neg hx] at hw
        have := ih (acc ++ [x]) w hw
        simp at this ⊢; omega
  have := this l [] w h
  simpa using this
theorem spc_many (c : Nat) (l : List Nat) : (spc c l).length ≤ l.length + 1 := by
  have : ∀ (l acc : List Nat), (TL.spl [c] 0 acc l).length ≤ l.length + 1 := by
    intro l
    induction l with
    | nil => intro acc; rw [TL.spl_nil]; simp
    | cons x r ih =>
      intro acc
      rw [spl_cons]
      by_cases hx : x = c
      · rw [if_pos hx]; have := ih []; simp at this ⊢; omega
      · rw [if_neg hx]; have := ih (acc ++ [x]); simp at this ⊢; omega
  exact this l []
theorem read_pattern_eq {l : List Nat} (hl : l.length ≤ 9000) : F_read_pattern [wD l] = .ok (match readT l with
    | none => .non
    | some (ts, ls) => .tup [.tup (ts.map ttD), .tup (ls.map fun k => wD (lnW k))]) := Rs.eq (by
  refine rs_run ?_
  unfold Fb_read_pattern
  show Ss (seqF _ _ [some (wD l), none, none, none, none, none]) _ _ _ _ _
  refine ss_seq (ss_set (rs_lst (rs_nil ⟨Nat.zero_le _, ?_⟩)))
  refine ss_seq (ss_set (rs_lst (rs_nil ⟨Nat.zero_le _, ?_⟩)))
  refine ss_seq (ss_set (rs_c ?_))
  refine ss_seq (ss_each wD (spc 32 l) (fun i r => ∃ ts ls k x4 x5, r = [some (wD l), some (.lst (ts.map ttD)), some (.lst (ls.map fun k => wD (lnW k))), some (wD (lnW k)), x4, x5] ∧ ts.length ≤ i ∧ ls.length ≤ i ∧ rdP ((spc 32 l).drop i) k ts ls = rdP (spc 32 l) .st [] []) ?_ ?_ ?_ ?_)
  · exact rs_str (rs_var rfl (rs_asS (rs_c (rs_split ⟨by decide, Nat.le_trans (show _ ≤ 100000 by omega) sz5⟩ rfl))))
  · exact ⟨[], [], .st, none, none, rfl, by simp, by simp, rfl⟩
  · rintro i w r hw ⟨ts, ls, k, x4, x5, rfl, h1, h2, h3⟩
    have hwl : w.length ≤ 10000 := by have := spc_ln (List.mem_of_getElem? hw); omega
    have hil : i ≤ 9001 := by
      have := (List.getElem?_eq_some_iff.mp hw).1
      have := spc_many 32 l
      omega
    have hd : (spc 32 l).drop i = w :: (spc 32 l).drop (i + 1) := by
      obtain ⟨hi, e⟩ := List.getElem?_eq_some_iff.mp hw
      rw [List.drop_eq_getElem_cons hi, e]
    rw [hd, rdP] at h3
    show Ss (Lp_read_pattern_1 [some (wD l), some (.lst (ts.map ttD)), some (.lst (ls.map fun k => wD (lnW k))), some (wD (lnW k)), some (wD w), x5]) _ _ _ _ _
    unfold Lp_read_pattern_1
    refine ss_seq (ss_if (rs_and (rs_T (rs_un (rs_var (d := wD w) rfl (rs_mdIn (rs_asB (rs_T (rs_op (rs_var rfl (rs_c (rs_eqS (rs_asB ⟨fun z => ?_, fun z => ?_⟩)))))))))))))
    · rw [look_links, Bool.and_eq_true, decide_eq_true_eq, lnW_an, Option.isSome_map] at z
      obtain ⟨z1, z2⟩ := z
      rw [if_pos ⟨z2, z1⟩] at h3
      obtain ⟨k', hk'⟩ := Option.isSome_iff_exists.mp z1
      rw [hk'] at h3
      refine ss_seq (ss_set (rs_un (rs_var (d := wD w) rfl (rs_mdGet (d := wD (lnW k')) (by rw [look_links, hk']; rfl) ?_))))
      exact ss_ct ⟨ts, ls, k', _, x5, rfl, by omega, by omega, h3⟩
    · have hn : ¬ (k = .an ∧ (lkW w).isSome = true) := fun h => by
        rw [look_links, Option.isSome_map, h.2, decide_eq_true (lnW_an.mpr h.1)] at z
        cases z
      rw [if_neg hn] at h3
      refine ss_nx (ss_seq (ss_set (rs_call (rs_cons (rs_var (d := wD w) rfl (rs_nil (Rs.of (read_test_eq hwl) ?_)))))))
      cases ht : testP w with
      | none =>
        rw [ht] at h3
        refine ss_seq (ss_if (rs_T (rs_op (rs_var rfl (rs_c (rs_is (rs_asB ⟨fun _ => ?_, fun z => (by cases z)⟩)))))))
        refine ss_ret (rs_c ?_)
        unfold readT
        rw [← h3]
      | some t =>
        rw [ht] at h3
        dsimp only at h3
        refine ss_seq (ss_if (rs_T (rs_op (rs_var rfl (rs_c (rs_is (rs_asB ⟨fun z => (by cases z), fun _ => ss_nx ?_⟩)))))))
        refine ss_seq (ss_app (ds := ts.map ttD) rfl (rs_var (d := ttD t) rfl ⟨Nat.lt_of_lt_of_le (show _ < 100000 by rw [List.length_map]; omega) sz5, ?_⟩))
        refine ss_seq (ss_app (ds := ls.map fun k => wD (lnW k)) rfl (rs_var (d := wD (lnW k)) rfl ⟨Nat.lt_of_lt_of_le (show _ < 100000 by rw [List.length_map]; omega) sz5, ?_⟩))
        refine ss_set (rs_c ⟨ts ++ [t], ls ++ [k], .an, some (wD w), some (ttD t), ?_, by rw [List.length_append]; simp; omega, by rw [List.length_append]; simp; omega, h3⟩)
        rw [List.map_append, List.map_append]
        rfl
  · rintro r ⟨ts, ls, k, x4, x5, rfl, h1, h2, h3⟩
    rw [List.drop_length, rdP] at h3
    unfold readT
    rw [← h3]
    dsimp only
    have := spc_many 32 l
    refine ss_seq (ss_if (rs_or (rs_T (rs_op (rs_var rfl (rs_c (rs_neS (rs_asB (rs_T (rs_op (rs_call (rs_cons (rs_var (d := .lst (ts.map ttD)) rfl (rs_nil (rs_lenL (rs_c (rs_gt (rs_asB ⟨fun z => ?_, fun z => ss_nx ?_⟩))))))))))))))))))
    · have : ¬ (k = .an ∧ ts.length ≤ 4) := fun h => by
        rw [decide_eq_true (lnW_an.mpr h.1), decide_eq_false (by rw [List.length_map]; omega)] at z
        cases z
      rw [if_neg this]
      exact ss_ret (rs_c rfl)
    · have : k = .an ∧ ts.length ≤ 4 := by
        rw [Bool.or_eq_false_iff] at z
        refine ⟨lnW_an.mp (by simpa using z.1), ?_⟩
        have := of_decide_eq_false z.2
        rw [List.length_map] at this
        omega
      rw [if_pos this]
      refine ss_ret (rs_tup (rs_cons (rs_call (rs_cons (rs_var (d := .lst (ts.map ttD)) rfl (rs_nil (rs_tupL (rs_cons (rs_call (rs_cons (rs_var (d := .lst (ls.map fun k => wD (lnW k))) rfl (rs_nil (rs_tupL (rs_nil ⟨Nat.le_of_ble_eq_true rfl, rfl⟩)))))))))))))))
end
section
theorem l_name_eq {w : List Nat} (hl : w.length ≤ 10000) : F_l_name [wD w] = .ok (.bl (nmB w)) := Rs.eq (by
  refine rs_run ?_
  unfold Fb_l_name
  show Ss (seqF _ _ [some (wD w), none]) _ _ _ _ _
  refine ss_seq (ss_for (fun i r => (∃ x, r = [some (wD w), x]) ∧ ∀ c ∈ w.take i, 97 ≤ c ∧ c ≤ 122) (rs_it (rs_var rfl (rs_itsS ⟨⟨⟨_, rfl⟩, by simp⟩, ?_, ?_⟩))))
  · rintro i d r hd ⟨⟨x, rfl⟩, hi⟩
    rw [List.getElem?_map] at hd
    obtain ⟨c, hc, rfl⟩ := Option.map_eq_some_iff.mp hd
    refine ⟨_, rfl, ?_⟩
    unfold Lp_l_name_1
    refine ss_if (rs_T (rs_op (rs_var rfl (rs_c (rs_ninS (rs_asB ⟨fun z => ?_, fun z => ?_⟩))))))
    · refine ss_ret (rs_c ?_)
      have := low_no hc fun h => by rw [decide_eq_true (low_mem.mpr h)] at z; cases z
      unfold nmB
      rw [this, Bool.and_false]
    · refine ss_nx ⟨⟨_, rfl⟩, fun c' hc' => ?_⟩
      rw [take_snoc hc] at hc'
      rcases List.mem_append.mp hc' with h | h
      · exact hi c' h
      · rw [List.mem_singleton.mp h]
        refine low_mem.mp ?_
        by_cases m : c ∈ [97, 98, 99, 100, 101, 102, 103, 104, 105, 106, 107, 108, 109, 110, 111, 112, 113, 114, 115, 116, 117, 118, 119, 120, 121, 122]
        · exact m
        · rw [decide_eq_false m] at z; cases z
  · rintro r ⟨⟨x, rfl⟩, hi⟩
    rw [List.length_map, List.take_length] at hi
    refine ss_ret (rs_andV (rs_op (rs_c (rs_call (rs_cons (rs_var rfl (rs_nil (rs_lenS (Nat.le_trans (show _ ≤ 100000 by omega) sz5) (rs_le (rs_asB (rs_op (rs_call (rs_cons (rs_var rfl (rs_nil (rs_lenS (Nat.le_trans (show _ ≤ 100000 by omega) sz5) (rs_c (rs_le (rs_asB ?_)))))))))))))))))))
    unfold nmB
    rw [lowB_iff.mpr hi, Bool.and_true]
    congr 1
    by_cases h : 0 < w.length ∧ w.length ≤ 8
    · rw [decide_eq_true h, decide_eq_true (by omega), decide_eq_true (by omega)]; rfl
    · rw [decide_eq_false h]
      by_cases h1 : 0 < w.length
      · rw [decide_eq_false (p := ((w.length : Int) ≤ 8)) (by omega), Bool.and_false]
      · rw [decide_eq_false (p := ((1 : Int) ≤ (w.length : Int))) (by omega), Bool.false_and])
def wB2 (t : TT) : D := .tup [.bl (!decide (t.1 = [42])), .bl (!decide (t.2 = []))]
theorem l_read_eq {l : List Nat} (hl : l.length ≤ 9000) : F_l_read [wD l] = .ok (match readT l with
    | none => .non
    | some (ts, _) => .lst (ts.map wB2)) := Rs.eq (by
  refine rs_run ?_
  unfold Fb_l_read
  show Ss (seqF _ _ [some (wD l), none, none, none, none, none]) _ _ _ _ _
  refine ss_seq (ss_set (rs_lst (rs_nil ⟨Nat.zero_le _, ?_⟩)))
  refine ss_seq (ss_set (rs_c ?_))
  refine ss_seq (ss_each wD (spc 32 l) (fun i r => ∃ ts ls k x3 x4 x5, r = [some (wD l), some (.lst (ts.map wB2)), some (.bl (decide (k = Ln.an))), x3, x4, x5] ∧ ts.length ≤ i ∧ rdP ((spc 32 l).drop i) k ts ls = rdP (spc 32 l) .st [] []) ?_ ?_ ?_ ?_)
  · exact rs_str (rs_var rfl (rs_asS (rs_c (rs_split ⟨by decide, Nat.le_trans (show _ ≤ 100000 by omega) sz5⟩ rfl))))
  · exact ⟨[], [], .st, none, none, none, rfl, by simp, rfl⟩
  · rintro i w r hw ⟨ts, ls, k, x3, x4, x5, rfl, h1, h3⟩
    have hwl : w.length ≤ 10000 := by have := spc_ln (List.mem_of_getElem? hw); omega
    have hil : i ≤ 9001 := by
      have := (List.getElem?_eq_some_iff.mp hw).1
      have := spc_many 32 l
      omega
    have hd : (spc 32 l).drop i = w :: (spc 32 l).drop (i + 1) := by
      obtain ⟨hi, e⟩ := List.getElem?_eq_some_iff.mp hw
      rw [List.drop_eq_getElem_cons hi, e]
    rw [hd, rdP] at h3
    have hfail : testP w = none → ¬ (k = .an ∧ (lkW w).isSome = true) → readT l = none := fun e hn => by
      rw [if_neg hn, e] at h3
      unfold readT
      rw [← h3]
    show Ss (Lp_l_read_1 [some (wD l), some (.lst (ts.map wB2)), some (.bl (decide (k = Ln.an))), some (wD w), x4, x5]) _ _ _ _ _
    unfold Lp_l_read_1
    refine ss_seq (ss_if (rs_and (rs_tru (rs_var rfl (rs_truB (rs_or (rs_T (rs_op (rs_var (d := wD w) rfl (rs_c (rs_eqS (rs_asB (rs_T (rs_op (rs_var (d := wD w) rfl (rs_c (rs_eqS (rs_asB ⟨fun z => ?_, fun z => ?_⟩))))))))))))))))))
    · have hc : k = .an ∧ (lkW w).isSome = true ∧ (lkW w).getD .st ≠ .an := by
        rw [Bool.and_eq_true, decide_eq_true_eq, Bool.or_eq_true, decide_eq_true_eq, decide_eq_true_eq] at z
        refine ⟨z.1, ?_⟩
        unfold lkW
        rcases z.2 with rfl | rfl <;> decide
      rw [if_pos ⟨hc.1, hc.2.1⟩] at h3
      refine ss_seq (ss_set (rs_c ?_))
      refine ss_ct ⟨ts, ls, (lkW w).getD .st, some (wD w), x4, x5, ?_, by omega, h3⟩
      rw [decide_eq_false hc.2.2]
      rfl
    · have hn : ¬ (k = .an ∧ (lkW w).isSome = true) := fun h => by
        rw [decide_eq_true h.1, Bool.true_and, Bool.or_eq_false_iff, decide_eq_false_iff_not, decide_eq_false_iff_not] at z
        have h2 := h.2
        unfold lkW at h2
        rw [if_neg z.1, if_neg z.2] at h2
        cases h2
      have hfail := fun e => hfail e hn
      rw [if_neg hn] at h3
      refine ss_nx (ss_seq (ss_set (rs_str (rs_var (d := wD w) rfl (rs_asS (rs_c (rs_find ?_)))))))
      refine ss_seq (ss_set (rs_var (d := wD w) rfl ?_))
      unfold testP at h3 hfail
      unfold fndI
      cases hb : brk 46 w with
      | none =>
        rw [hb] at h3 hfail
        dsimp only at h3 hfail ⊢
        refine ss_seq (ss_if (rs_T (rs_op (rs_var rfl (rs_c (rs_ge (rs_asB ⟨fun z => absurd (of_decide_eq_true z) (by decide), fun _ => ss_nx ?_⟩)))))))
        refine ss_seq (ss_if (rs_and (rs_T (rs_op (rs_var (d := wD w) rfl (rs_c (rs_neS (rs_asB (rs_not (rs_T (rs_call (rs_cons (rs_var (d := wD w) rfl (rs_nil (Rs.of (l_name_eq hwl) (rs_asB ⟨fun z => ?_, fun z => ?_⟩))))))))))))))))
        · have : okKd w = false := by
            unfold okKd
            cases h1 : decide (w = [42]) <;> cases h2 : nmB w <;> simp [h1, h2] at z ⊢
          rw [this] at hfail
          refine ss_ret (rs_c ?_)
          rw [hfail rfl]
        · have : okKd w = true := by
            unfold okKd
            cases h1 : decide (w = [42]) <;> cases h2 : nmB w <;> simp [h1, h2] at z ⊢
          rw [this] at h3
          refine ss_nx (ss_seq (ss_app (ds := ts.map wB2) rfl (rs_tup (rs_cons (rs_op (rs_var (d := wD w) rfl (rs_c (rs_neS (rs_cons (rs_op (rs_var rfl (rs_c (rs_ge (rs_nil ⟨Nat.le_of_ble_eq_true rfl, Nat.lt_of_lt_of_le (show _ < 100000 by rw [List.length_map]; omega) sz5, ?_⟩))))))))))))))
          refine ss_set (rs_c ⟨ts ++ [(w, [])], ls ++ [k], .an, some (wD w), some (.int (-1)), some (wD w), ?_, by rw [List.length_append]; simp; omega, h3⟩)
          rw [List.map_append]
          rfl
      | some y =>
        obtain ⟨p, q⟩ := y
        rw [hb] at h3 hfail
        dsimp only at h3 hfail ⊢
        obtain ⟨hp, hq⟩ := brk_len hb
        obtain ⟨hw2, _⟩ := brk_some hb
        have c1 : cutL w none (some (p.length : Int)) = p := by rw [cut_take, hw2, List.take_left]
        have c2 : cutL w (some ((p.length : Int) + 1)) none = q := by
          rw [show ((p.length : Int) + 1) = ((p.length + 1 : Nat) : Int) by omega, cut_drop, hw2, show p ++ 46 :: q = (p ++ [46]) ++ q by simp, show p.length + 1 = (p ++ [46]).length by simp, List.drop_left]
        refine ss_seq (ss_if (rs_T (rs_op (rs_var rfl (rs_c (rs_ge (rs_asB ⟨fun _ => ?_, fun z => absurd (of_decide_eq_false z) (by omega)⟩)))))))
        refine ss_seq (ss_set (rs_sl (rs_var (d := wD w) rfl (rs_noP (rs_part (rs_var rfl (rs_asI (rs_slS (Nat.le_trans (show _ ≤ 100000 by omega) sz5) ?_))))))))
        rw [c1]
        refine ss_if (rs_not (rs_T (rs_call (rs_cons (rs_sl (rs_var (d := wD w) rfl (rs_part (rs_op (rs_var rfl (rs_c (rs_add (rs_asI (rs_noP (rs_slS (Nat.le_trans (show _ ≤ 100000 by omega) sz5) ?_))))))))))))))
        rw [c2]
        refine rs_nil (Rs.of (l_name_eq (by omega)) (rs_asB ⟨fun z => ?_, fun z => ss_nx ?_⟩))
        · have : nmB q = false := by cases h : nmB q <;> simp [h] at z ⊢
          rw [this, Bool.and_false] at hfail
          refine ss_ret (rs_c ?_)
          rw [hfail rfl]
        · have hnq : nmB q = true := by cases h : nmB q <;> simp [h] at z ⊢
          rw [hnq, Bool.and_true] at hfail h3
          refine ss_seq (ss_if (rs_and (rs_T (rs_op (rs_var (d := wD p) rfl (rs_c (rs_neS (rs_asB (rs_not (rs_T (rs_call (rs_cons (rs_var (d := wD p) rfl (rs_nil (Rs.of (l_name_eq (by omega)) (rs_asB ⟨fun z => ?_, fun z => ?_⟩))))))))))))))))
          · have : okKd p = false := by
              unfold okKd
              cases h1 : decide (p = [42]) <;> cases h2 : nmB p <;> simp [h1, h2] at z ⊢
            rw [this] at hfail
            refine ss_ret (rs_c ?_)
            rw [hfail rfl]
          · have : okKd p = true := by
              unfold okKd
              cases h1 : decide (p = [42]) <;> cases h2 : nmB p <;> simp [h1, h2] at z ⊢
            rw [this] at h3
            have hq0 : q ≠ [] := fun e => by rw [e] at hnq; cases hnq
            refine ss_nx (ss_seq (ss_app (ds := ts.map wB2) rfl (rs_tup (rs_cons (rs_op (rs_var (d := wD p) rfl (rs_c (rs_neS (rs_cons (rs_op (rs_var rfl (rs_c (rs_ge (rs_nil ⟨Nat.le_of_ble_eq_true rfl, Nat.lt_of_lt_of_le (show _ < 100000 by rw [List.length_map]; omega) sz5, ?_⟩))))))))))))))
            refine ss_set (rs_c ⟨ts ++ [(p, q)], ls ++ [k], .an, some (wD w), some (.int (p.length : Int)), some (wD p), ?_, by rw [List.length_append]; simp; omega, h3⟩)
            rw [List.map_append, decide_eq_true (show (0 : Int) ≤ (p.length : Int) by omega)]
            show _ = [_, some (D.lst (ts.map wB2 ++ [D.tup [_, D.bl (!decide (q = []))]])), _, _, _, _]
            rw [decide_eq_false hq0]
            rfl
  · rintro r ⟨ts, ls, k, x3, x4, x5, rfl, h1, h3⟩
    rw [List.drop_length, rdP] at h3
    unfold readT
    rw [← h3]
    dsimp only
    have := spc_many 32 l
    refine ss_seq (ss_if (rs_or (rs_not (rs_tru (rs_var rfl (rs_truB (rs_T (rs_op (rs_call (rs_cons (rs_var (d := .lst (ts.map wB2)) rfl (rs_nil (rs_lenL (rs_c (rs_gt (rs_asB ⟨fun z => ?_, fun z => ss_nx ?_⟩))))))))))))))))
    · have : ¬ (k = .an ∧ ts.length ≤ 4) := fun h => by
        rw [decide_eq_true h.1, decide_eq_false (by rw [List.length_map]; omega)] at z
        cases z
      rw [if_neg this]
      exact ss_ret (rs_c rfl)
    · have : k = .an ∧ ts.length ≤ 4 := by
        rw [Bool.or_eq_false_iff] at z
        refine ⟨by simpa using z.1, ?_⟩
        have := of_decide_eq_false z.2
        rw [List.length_map] at this
        omega
      rw [if_pos this]
      exact ss_ret (rs_var rfl rfl))
end
section
def lsD (ls : List Ln) : D := .tup (ls.map fun k => wD (lnW k))
def tsD (ts : List TT) : D := .tup (ts.map ttD)
def patD (l : List Nat) (ts : List TT) (ls : List Ln) : D := .obj "Pattern" ["text", "tests", "links"] [wD l, tsD ts, lsD ls]
theorem ss_fst0 {i : Nat} {n fl : Str} {f : Rho → Res D} {ns ns' : List Str} {vs vs' : List D} {d : D} {r : Rho} {N B C : Rho → Prop} {R : D → Prop} {E : Rho → Str → List Str → List D → Prop} (hf : Rs (f r) (fun x => x = d) (E r)) (h1 : r[i]? = some (some (.obj n ns vs))) (hn : ns.length < 1000) (hp : putN fl d ns vs = (ns', vs')) (h : N (r.set i (some (.obj n ns' vs')))) : Ss (fstF i n fl f r) N R B C E :=
  ss_fst (ns := ns) (vs := vs) (hf.impE (fun x e => by subst e; refine ⟨h1, hn, ?_⟩; rw [hp]; exact h) fun _ _ _ z => z)
theorem pat_ok {l : List Nat} {ts : List TT} {ls : List Ln} (hl : l.length ≤ 9000) (h : readT l = some (ts, ls)) : F_Pattern_init [wD l] = .ok (patD l ts ls) := Rs.eq (by
  have hr := read_pattern_eq hl
  rw [h] at hr
  refine rs_runI ?_
  unfold Fb_Pattern_init
  show Ss (seqF _ _ [some (.obj "Pattern" [] []), some (wD l), none]) _ _ _ _ _
  refine ss_seq (ss_set (rs_call (rs_cons (rs_var (d := wD l) rfl (rs_nil (Rs.of hr ?_))))))
  refine ss_seq (ss_if (rs_T (rs_op (rs_var rfl (rs_c (rs_is (rs_asB ⟨fun z => (by cases z), fun _ => ss_nx ?_⟩)))))))
  refine ss_seq (ss_fst0 (ns := []) (vs := []) (ns' := ["text"]) (vs' := [wD l]) (rs_var rfl rfl) rfl (by decide) rfl ?_)
  refine ss_seq (ss_fst0 (ns := ["text"]) (vs := [wD l]) (ns' := ["text", "tests"]) (vs' := [wD l, tsD ts]) (rs_op (rs_var rfl (rs_c (rs_ixT (d := tsD ts) (atI_nat (j := 0) rfl) rfl)))) rfl (by decide) (by rfl) ?_)
  refine ss_fst0 (ns := ["text", "tests"]) (vs := [wD l, tsD ts]) (ns' := ["text", "tests", "links"]) (vs' := [wD l, tsD ts, lsD ls]) (rs_op (rs_var rfl (rs_c (rs_ixT (d := lsD ls) (atI_nat (j := 1) rfl) rfl)))) rfl (by decide) (by rfl) ?_
  exact ⟨_, rfl, rfl⟩)
theorem pat_err {l : List Nat} (hl : l.length ≤ 9000) (h : readT l = none) : F_Pattern_init [wD l] = .err "BadPattern" ["text"] [wD l] := Rs.errEq (by
  have hr := read_pattern_eq hl
  rw [h] at hr
  refine rs_runI ?_
  unfold Fb_Pattern_init
  show Ss (seqF _ _ [some (.obj "Pattern" [] []), some (wD l), none]) _ _ _ _ _
  refine ss_seq (ss_set (rs_call (rs_cons (rs_var (d := wD l) rfl (rs_nil (Rs.of hr ?_))))))
  refine ss_seq (ss_if (rs_T (rs_op (rs_var rfl (rs_c (rs_is (rs_asB ⟨fun _ => ?_, fun z => (by cases z)⟩)))))))
  exact ss_raise (rs_cons (rs_var (d := wD l) rfl (rs_nil ⟨rfl, rfl, rfl, rfl⟩))))
theorem rs_isP {l : List Nat} {ts : List TT} {ls : List Ln} {Q : D → Prop} {E : Str → List Str → List D → Prop} (q : Q (.bl true)) : Rs (isiO "Pattern" (patD l ts ls)) Q E := by
  unfold isiO
  rw [if_pos (show isCls "Pattern" (patD l ts ls) = true from isCls_self)]; exact q
theorem rs_prop {n : Str} {F : List D → Res D} {f : Rho → Res D} {r : Rho} {Q : D → Prop} {E : Str → List Str → List D → Prop} (h : Rs (f r) (fun x => isCls n x = true ∧ ∃ d, F [x] = .ok d ∧ Q d) E) : Rs (dProp n F f r) Q E := Rs.bind (h.impE (fun x q => by
  obtain ⟨h1, d, h2, q⟩ := q
  rw [if_pos h1, h2]
  exact q) fun _ _ _ z => z)
theorem rs_isB2 {x y : Bool} {Q : D → Prop} {E : Str → List Str → List D → Prop} (q : Q (.bl (!decide (x = y)))) : Rs (isBD true (.bl x) (.bl y)) Q E := q
theorem rs_cmpV {n : Str} {F : List D → Res D} {ns : List Str} {vs : List D} {d e : D} {Q : D → Prop} {E : Str → List Str → List D → Prop} (hF : F [.obj n ns vs, d] = .ok e) (ht : isCls n d = true ∨ (tyN d).isSome = true) (q : Q e) : Rs (cmpV n F (.obj n ns vs) d) Q E := by
  unfold cmpV
  rw [if_pos isCls_self, if_pos ht, hF]
  exact q
theorem pat_len (l : List Nat) (ts : List TT) (ls : List Ln) : F_Pattern_len [patD l ts ls] = .ok (.int (ts.length : Int)) := Rs.eq (by
  refine rs_run ?_
  unfold Fb_Pattern_len
  refine ss_ret (rs_call (rs_cons (rs_un (rs_var (d := patD l ts ls) rfl (rs_fld (d := tsD ts) rfl (rs_nil (rs_lenT ?_)))))))
  rw [List.length_map])
theorem pat_str (l : List Nat) (ts : List TT) (ls : List Ln) : F_Pattern_str [patD l ts ls] = .ok (wD l) := Rs.eq (by
  refine rs_run ?_
  unfold Fb_Pattern_str
  exact ss_ret (rs_call (rs_cons (rs_un (rs_var (d := patD l ts ls) rfl (rs_fld (d := wD l) rfl (rs_nil (rs_strSS rfl))))))))
def nAsk (ts : List TT) : Nat := (ts.filter fun t => !decide (t.2 = [])).length
def nNam (ts : List TT) : Nat := (ts.filter fun t => !decide (t.1 = [42])).length
theorem pat_asked (l : List Nat) (ts : List TT) (ls : List Ln) (h : ts.length ≤ 4) : F_Pattern_asked [patD l ts ls] = .ok (.int (nAsk ts : Int)) := Rs.eq (by
  refine rs_run ?_
  unfold Fb_Pattern_asked
  refine ss_ret (rs_call (rs_cons ?_))
  refine rs_lcF ttD ttD (fun t => !decide (t.2 = [])) ts (rs_it (rs_un (rs_var (d := patD l ts ls) rfl (rs_fld (d := tsD ts) rfl (rs_itsT rfl))))) (Nat.le_trans (show _ ≤ 100000 by omega) sz5) (fun t _ => ⟨_, rfl, rs_T (rs_op (rs_op (rs_var (d := ttD t) rfl (rs_c (rs_ixT (d := wD t.2) (atI_nat (j := 1) rfl) (rs_c (rs_neS (rs_asB rfl)))))))), fun _ => rs_var rfl rfl⟩) (rs_nil (rs_lenL ?_))
  rw [List.length_map]
  rfl)
theorem pat_named (l : List Nat) (ts : List TT) (ls : List Ln) (h : ts.length ≤ 4) : F_Pattern_named [patD l ts ls] = .ok (.int (nNam ts : Int)) := Rs.eq (by
  refine rs_run ?_
  unfold Fb_Pattern_named
  refine ss_ret (rs_call (rs_cons ?_))
  refine rs_lcF ttD ttD (fun t => !decide (t.1 = [42])) ts (rs_it (rs_un (rs_var (d := patD l ts ls) rfl (rs_fld (d := tsD ts) rfl (rs_itsT rfl))))) (Nat.le_trans (show _ ≤ 100000 by omega) sz5) (fun t _ => ⟨_, rfl, rs_T (rs_op (rs_op (rs_var (d := ttD t) rfl (rs_c (rs_ixT (d := wD t.1) (atI_nat (j := 0) rfl) (rs_c (rs_neS (rs_asB rfl)))))))), fun _ => rs_var rfl rfl⟩) (rs_nil (rs_lenL ?_))
  rw [List.length_map]
  rfl)
theorem pat_eq (l l' : List Nat) (ts ts' : List TT) (ls ls' : List Ln) : F_Pattern_eq [patD l ts ls, patD l' ts' ls'] = .ok (.bl (decide (l = l'))) := Rs.eq (by
  refine rs_run ?_
  unfold Fb_Pattern_eq
  refine ss_ret (rs_andVc (rs_un (rs_var (d := patD l' ts' ls') rfl (rs_isP (rs_asB ⟨fun _ => ?_, fun z => (by cases z)⟩)))))
  exact rs_op (rs_un (rs_var (d := patD l ts ls) rfl (rs_fld (d := wD l) rfl (rs_un (rs_var (d := patD l' ts' ls') rfl (rs_fld (d := wD l') rfl (rs_eqS rfl))))))))
theorem pat_eqS (l l' : List Nat) (ts : List TT) (ls : List Ln) : F_Pattern_eq [patD l ts ls, wD l'] = .ok (.bl false) := Rs.eq (by
  refine rs_run ?_
  unfold Fb_Pattern_eq
  refine ss_ret (rs_andVc (rs_un (rs_var (d := wD l') rfl ?_)))
  show Rs (Res.ok (D.bl false)) _ _
  refine rs_ok ?_
  refine rs_asB (b := false) ?_
  exact ⟨fun z => (by cases z), fun _ => rfl⟩)
theorem refused_eq {l : List Nat} (hl : l.length ≤ 9000) (h : readT l = none) : F_l_refused [wD l] = .ok (.bl true) := Rs.eq (by
  refine rs_run ?_
  unfold Fb_l_refused
  show Ss (seqF _ _ [some (wD l), none]) _ _ _ _ _
  refine ss_seq (ss_try (ss_drop (rs_call (rs_cons (rs_var (d := wD l) rfl (rs_nil (Rs.ofE (pat_err hl h) ⟨by decide +kernel, ?_⟩)))))))
  show Ss (seqF _ _ [some (wD l), some (.obj "BadPattern" ["text"] [wD l])]) _ _ _ _ _
  refine ss_seq (ss_if (rs_or (rs_T (rs_isX rfl (by decide +kernel : isM_BadValue "BadPattern" = some false) (rs_asB (rs_T (rs_isX rfl (by decide +kernel : isM_BadLine "BadPattern" = some false) (rs_asB ⟨fun z => (by cases z), fun _ => ss_nx ?_⟩))))))))
  refine ss_ret (rs_andV (rs_isX rfl (by decide +kernel : isM_LaidError "BadPattern" = some true) (rs_asB (rs_andV (rs_isX rfl (by decide +kernel : isM_ValueError "BadPattern" = some true) (rs_asB (rs_andV (rs_un (rs_xf rfl (d := wD l) rfl (rs_isi_str_str (rs_asB (rs_op (rs_xf rfl (d := wD l) rfl (rs_var (d := wD l) rfl (rs_eqS (rs_asB (rs_asB (rs_asB ?_))))))))))))))))))
  simp)
theorem number_eq (i : Int) : F_l_number [.int i] = .ok (.bl true) := Rs.eq (by
  refine rs_run ?_
  unfold Fb_l_number
  array_get_dec
  rfl)
theorem let_eq {l g : List Nat} {ts ts' : List TT} {ls ls' : List Ln} (hl : l.length ≤ 9000) (hg : g.length ≤ 9000) (h : readT l = some (ts, ls)) (h' : readT g = some (ts', ls')) (h4 : ts.length ≤ 4) : F_l_let [wD l, .lst (ts.map wB2), wD g] = .ok (.bl true) := Rs.eq (by
  have np := pat_ok hl h
  have ng := pat_ok hg h'
  refine rs_run ?_
  unfold Fb_l_let
  show Ss (seqF _ _ [some (wD l), some (.lst (ts.map wB2)), some (wD g), none, none, none, none, none, none, none]) _ _ _ _ _
  refine ss_seq (ss_set (rs_call (rs_cons (rs_var (d := wD l) rfl (rs_nil (Rs.of np ?_))))))
  refine ss_seq (ss_set (rs_lst (rs_cons (rs_call (rs_cons (rs_var (d := patD l ts ls) rfl (rs_nil (rs_lenO (pat_len l ts ls) ⟨by omega, by omega⟩ ?_))))))))
  refine rs_cons (rs_prop (rs_var (d := patD l ts ls) rfl ⟨isCls_self, _, pat_asked l ts ls h4, rs_cons (rs_prop (rs_var (d := patD l ts ls) rfl ⟨isCls_self, _, pat_named l ts ls h4, rs_nil ⟨Nat.le_of_ble_eq_true rfl, ?_⟩⟩))⟩))
  refine ss_seq (ss_set (rs_lst (rs_cons (rs_call (rs_cons (rs_var (d := .lst (ts.map wB2)) rfl (rs_nil (rs_lenL ?_))))))))
  rw [List.length_map]
  refine rs_cons (rs_call (rs_cons (rs_lcF wB2 wB2 (fun t => !decide (t.2 = [])) ts (rs_it (rs_var (d := .lst (ts.map wB2)) rfl (rs_itsL rfl))) (Nat.le_trans (show _ ≤ 100000 by omega) sz5) (fun t _ => ⟨_, rfl, rs_tru (rs_op (rs_var (d := wB2 t) rfl (rs_c (rs_ixT (d := .bl (!decide (t.2 = []))) (atI_nat (j := 1) rfl) (rs_truB rfl))))), fun _ => rs_var rfl rfl⟩) ?_)))
  refine rs_nil (rs_lenL (rs_cons (rs_call (rs_cons (rs_lcF wB2 wB2 (fun t => !decide (t.1 = [42])) ts (rs_it (rs_var (d := .lst (ts.map wB2)) rfl (rs_itsL rfl))) (Nat.le_trans (show _ ≤ 100000 by omega) sz5) (fun t _ => ⟨_, rfl, rs_tru (rs_op (rs_var (d := wB2 t) rfl (rs_c (rs_ixT (d := .bl (!decide (t.1 = [42]))) (atI_nat (j := 0) rfl) (rs_truB rfl))))), fun _ => rs_var rfl rfl⟩) ?_)))))
  refine rs_nil (rs_lenL (rs_nil ⟨Nat.le_of_ble_eq_true rfl, ?_⟩))
  rw [List.length_map, List.length_map]
  refine ss_seq (ss_rng 3 (fun i r => ∃ x7, r = [some (wD l), some (.lst (ts.map wB2)), some (wD g), some (patD l ts ls), some (iL [(ts.length : Int), (nAsk ts : Int), (nNam ts : Int)]), some (iL [(ts.length : Int), (nAsk ts : Int), (nNam ts : Int)]), none, x7, none, none]) (rs_c rfl) (by omega) ⟨_, rfl⟩ ?_ ?_)
  · rintro i r hi ⟨x7, rfl⟩
    obtain ⟨v, hv⟩ : ∃ v, [(ts.length : Int), (nAsk ts : Int), (nNam ts : Int)][i]? = some v := ⟨_, List.getElem?_eq_getElem (by simpa using hi)⟩
    have ix : ∀ {Q : D → Prop} {E : Str → List Str → List D → Prop}, Q (.int v) → Rs (ixD (iL [(ts.length : Int), (nAsk ts : Int), (nNam ts : Int)]) (.int (i : Int))) Q E := fun q => rs_ixL (atI_nat (by rw [List.getElem?_map, hv]; rfl)) q
    show Ss (Lp_l_let_1 [some (wD l), some (.lst (ts.map wB2)), some (wD g), some (patD l ts ls), some (iL [(ts.length : Int), (nAsk ts : Int), (nNam ts : Int)]), some (iL [(ts.length : Int), (nAsk ts : Int), (nNam ts : Int)]), none, some (.int (i : Int)), none, none]) _ _ _ _ _
    unfold Lp_l_let_1
    refine ss_if (rs_or (rs_not (rs_T (rs_call (rs_cons (rs_op (rs_var rfl (rs_var rfl (ix (rs_nil (Rs.of (number_eq v) (rs_asB (rs_T (rs_op (rs_op (rs_var rfl (rs_var rfl (ix (rs_op (rs_var rfl (rs_var rfl (ix (rs_neI (rs_asB ⟨fun z => ?_, fun _ => ss_nx ⟨_, rfl⟩⟩))))))))))))))))))))))))
    simp at z
  rintro r ⟨x7, rfl⟩
  refine ss_seq (ss_set (rs_call (rs_cons (rs_var (d := patD l ts ls) rfl (rs_nil (rs_strO (pat_str l ts ls) ?_))))))
  refine ss_seq (ss_if (rs_or (rs_not (rs_T (rs_un (rs_var rfl (rs_isi_str_str (rs_asB (rs_T (rs_op (rs_var (d := wD l) rfl (rs_var (d := wD l) rfl (rs_neS (rs_asB ⟨fun z => ?_, fun _ => ss_nx ?_⟩))))))))))))))
  · simp at z
  refine ss_seq (ss_if (rs_or (rs_T (rs_op (rs_op (rs_var (d := patD l ts ls) rfl (rs_call (rs_cons (rs_var (d := wD l) rfl (rs_nil (Rs.of np (rs_binO (pat_eq l l ts ts ls ls) (rs_c (rs_isB2 (rs_asB ?_)))))))))))))))
  refine rs_T (rs_op (rs_op (rs_var (d := patD l ts ls) rfl (rs_var (d := wD l) rfl (rs_cmpV (pat_eqS l l ts ls) (.inr rfl) (rs_c (rs_isB2 (rs_asB ⟨fun z => ?_, fun _ => ss_nx ?_⟩))))))))
  · simp at z
  refine ss_seq (ss_for (fun i r => ∃ x9, r = [some (wD l), some (.lst (ts.map wB2)), some (wD g), some (patD l ts ls), some (iL [(ts.length : Int), (nAsk ts : Int), (nNam ts : Int)]), some (iL [(ts.length : Int), (nAsk ts : Int), (nNam ts : Int)]), none, x7, some (wD l), x9]) (rs_it (rs_lst (rs_cons ?_))))
  refine rs_op (rs_var (d := patD l ts ls) rfl (rs_call (rs_cons (rs_var (d := wD g) rfl (rs_nil (Rs.of ng (rs_binO (pat_eq l g ts ts' ls ls') ?_)))))))
  refine rs_cons (rs_op (rs_call (rs_cons (rs_var (d := wD g) rfl (rs_nil (Rs.of ng (rs_var (d := patD l ts ls) rfl (rs_binO (pat_eq g l ts' ts ls' ls) (rs_nil ⟨Nat.le_of_ble_eq_true rfl, rs_itsL ⟨⟨_, rfl⟩, ?_, ?_⟩⟩)))))))))
  · rintro i d r hd ⟨x9, rfl⟩
    have hd : d = .bl (decide (l = g)) := by
      have := List.mem_of_getElem? hd
      simp only [List.mem_cons, List.not_mem_nil, or_false] at this
      rcases this with h | h
      · exact h
      · rw [h]; congr 1; exact decide_eq_decide.mpr ⟨Eq.symm, Eq.symm⟩
    subst hd
    refine ⟨_, rfl, ?_⟩
    unfold Lp_l_let_2
    refine ss_if (rs_or (rs_not (rs_T (rs_un (rs_var (d := .bl (decide (l = g))) rfl (rs_isi_bl_bool (rs_asB (rs_T (rs_op (rs_var (d := .bl (decide (l = g))) rfl (rs_op (rs_var (d := wD l) rfl (rs_var (d := wD g) rfl (rs_eqS (rs_neB (rs_asB ⟨fun z => ?_, fun _ => ss_nx ⟨_, rfl⟩⟩))))))))))))))))
    simp at z
  · rintro r ⟨x9, rfl⟩
    exact ss_ret (rs_c rfl))
end
section
def LNP : List Int := [3, 8, 8, 26, 26, 26, 26, 26, 26, 26, 26, 26]
theorem names_sp (c : Int) (m : Nat) (hm : m ≤ 8) : Rs (F_l_names [.int c, .int (m : Int)]) (fun d => ∃ ws : List (List Nat), d = .lst (ws.map wD) ∧ ws.length = m ∧ ∀ w ∈ ws, Nm w) nE := by
  refine rs_run ?_
  unfold Fb_l_names
  show Ss (seqF _ _ [some (.int c), some (.int (m : Int)), none, none, none, none, none, none]) _ _ _ _ _
  refine ss_seq (ss_set (rs_call (rs_cons (rs_var rfl (rs_cons (rs_lst (rs_cons (rs_c (rs_cons (rs_c (rs_cons (rs_c (rs_cons (rs_c (rs_cons (rs_c (rs_cons (rs_c (rs_cons (rs_c (rs_cons (rs_c (rs_cons (rs_c (rs_cons (rs_c (rs_cons (rs_c (rs_cons (rs_c (rs_nil ⟨Nat.le_of_ble_eq_true rfl, rs_nil ?_⟩)))))))))))))))))))))))))))))))
  show Rs (F_l_row [.int c, iL LNP]) _ _
  refine row_of c LNP (by decide) (by decide) fun vs hf => ?_
  have hvl : vs.length = 12 := hf.len
  refine ss_seq (ss_cut (fun r => ∃ A : List Nat, A.length = 26 ∧ (∀ c ∈ A, 97 ≤ c ∧ c ≤ 122) ∧ r = [some (.int c), some (.int (m : Int)), some (iL vs), some (wD A), none, none, none, none]) (ss_set (rs_c ⟨_, rfl, by decide, rfl⟩)) ?_)
  rintro _ ⟨A, hA, hAl, rfl⟩
  obtain ⟨v0, hv0, h00, h01⟩ := hf.get (k := 0) (l := 3) rfl
  obtain ⟨v1, hv1, h10, h11⟩ := hf.get (k := 1) (l := 8) rfl
  obtain ⟨v2, hv2, h20, h21⟩ := hf.get (k := 2) (l := 8) rfl
  obtain ⟨v3, hv3, h30, h31⟩ := hf.get (k := 3) (l := 26) rfl
  have ix : ∀ {k : Nat} {v i : Int} {Q : D → Prop} {E : Str → List Str → List D → Prop}, vs[k]? = some v → i = (k : Int) → Q (.int v) → Rs (ixD (iL vs) (.int i)) Q E := fun h e q => by
    subst e
    exact rs_ixL (atI_nat (by rw [List.getElem?_map, h]; rfl)) q
  refine ss_seq (ss_if (rs_T (rs_op (rs_op (rs_var rfl (rs_c (ix hv0 rfl (rs_c (rs_eqI (rs_asB ⟨fun _ => ?_, fun z0 => ss_nx ?_⟩))))))))))
  · refine ss_ret (rs_sl (rs_lst (rs_cons (rs_c (rs_cons (rs_c (rs_cons (rs_c (rs_cons (rs_c (rs_cons (rs_c (rs_cons (rs_c (rs_cons (rs_c (rs_cons (rs_c (rs_nil ⟨Nat.le_of_ble_eq_true rfl, rs_noP (rs_part (rs_var rfl (rs_asI (rs_slL ?_))))⟩)))))))))))))))))))
    rw [cut_take]
    refine ⟨[[100, 111, 99], [112, 97, 114], [101, 109], [104, 101, 97, 100], [110, 111, 116, 101], [97], [98], [120]].take m, by rw [List.map_take]; rfl, by rw [List.length_take]; simp; omega, fun w hw => ?_⟩
    have : ∀ w ∈ ([[100, 111, 99], [112, 97, 114], [101, 109], [104, 101, 97, 100], [110, 111, 116, 101], [97], [98], [120]] : List (List Nat)), Nm w := by
      unfold Nm; decide
    exact this w (List.mem_of_mem_take hw)
  have hps : ∀ p ∈ vs.drop 4, 0 ≤ p ∧ p < (A.length : Int) := by
    rw [hA]
    exact fit_mem (ls := LNP.drop 4) (fit_drop2 4 hf) (by decide)
  have hpl : (vs.drop 4).length = 8 := by rw [List.length_drop, hvl]
  refine ss_seq (ss_set (word_sp (A := A) (ps := vs.drop 4) (by omega) hps (by omega) ?_ rfl (by show 5 < 8; omega) (by decide) ?_))
  · refine rs_it (rs_sl (rs_var rfl (rs_part (rs_c (rs_asI (rs_noP (rs_slL ?_)))))))
    rw [show (4 : Int) = ((4 : Nat) : Int) from rfl, cut_drop, ← List.map_drop]
    rfl
  obtain ⟨W, hW, hWl⟩ : ∃ W : List Nat, W = (vs.drop 4).map (fun p => A.getD p.toNat 0) ∧ W.length = 8 := ⟨_, rfl, by rw [List.length_map, hpl]⟩
  have hWa : ∀ c ∈ W, 97 ≤ c ∧ c ≤ 122 := fun c hc => hAl c (pick_mem hps c (by rw [← hW]; exact hc))
  rw [← hW]
  show Ss (seqF _ _ [some (.int c), some (.int (m : Int)), some (iL vs), some (wD A), some (wD W), none, none, none]) _ _ _ _ _
  refine ss_seq (ss_if (rs_T (rs_op (rs_op (rs_var rfl (rs_c (ix hv0 rfl (rs_c (rs_eqI (rs_asB ⟨fun _ => ?_, fun z1 => ss_nx ?_⟩))))))))))
  · refine ss_ret (rs_lc (fun k : Nat => D.int (k : Int)) (fun k => wD (W.take (k + 1))) (List.range m) (rs_rngC (rs_var rfl rfl) (by omega)) (Nat.le_trans (show _ ≤ 100000 by rw [List.length_range]; omega) sz5) (fun k hk => ⟨_, rfl, rfl, ?_⟩) ?_)
    · refine rs_sl (rs_var (d := wD W) rfl (rs_noP (rs_part (rs_op (rs_var (d := .int (k : Int)) rfl (rs_c (rs_add (rs_asI (rs_slS (Nat.le_trans (show _ ≤ 100000 by omega) sz5) ?_)))))))))
      rw [show ((k : Int) + 1) = ((k + 1 : Nat) : Int) by omega, cut_take]
      rfl
    · refine ⟨(List.range m).map fun k => W.take (k + 1), by rw [List.map_map]; rfl, by rw [List.length_map, List.length_range], fun w hw => ?_⟩
      obtain ⟨k, hk, rfl⟩ := List.mem_map.mp hw
      have hk := List.mem_range.mp hk
      exact ⟨by rw [List.length_take]; omega, by rw [List.length_take]; omega, fun c hc => hWa c (List.mem_of_mem_take hc)⟩
  have ha0 : 0 ≤ v2 % (v1 + 1) := Int.emod_nonneg _ (by omega)
  have ha1 : v2 % (v1 + 1) < v1 + 1 := Int.emod_lt_of_pos _ (by omega)
  obtain ⟨a, ha⟩ : ∃ a : Nat, v2 % (v1 + 1) = (a : Int) := ⟨(v2 % (v1 + 1)).toNat, by omega⟩
  obtain ⟨b, hb⟩ : ∃ b : Nat, v1 = (b : Int) := ⟨v1.toNat, by omega⟩
  rw [ha] at ha1
  refine ss_seq (ss_set (rs_op (rs_call (rs_cons (rs_op (rs_var rfl (rs_c (ix hv2 rfl (rs_nil (rs_int (rs_op (rs_op (rs_var rfl (rs_c (ix hv1 rfl (rs_c (rs_add (rs_mod (by omega) ?_))))))))))))))))))
  rw [ha]
  refine ss_seq (ss_set (rs_sl (rs_var (d := wD W) rfl (rs_part (rs_op (rs_var rfl (rs_c (rs_add (rs_asI (rs_part (rs_op (rs_op (rs_var rfl (rs_c (ix hv1 rfl (rs_c (rs_add (rs_asI (rs_slS (Nat.le_trans (show _ ≤ 100000 by omega) sz5) ?_)))))))))))))))))))
  rw [hb, show ((a : Int) + 1) = ((a + 1 : Nat) : Int) by omega, show ((b : Int) + 1) = ((b + 1 : Nat) : Int) by omega, cut_mid]
  refine ss_ret (rs_lc (fun k : Nat => D.int (k : Int)) (fun k => wD ((W.take a ++ [A.getD ((v3 + (k : Int)) % 26).toNat 0]) ++ (W.take (b + 1)).drop (a + 1))) (List.range m) (rs_rngC (rs_var rfl rfl) (by omega)) (Nat.le_trans (show _ ≤ 100000 by rw [List.length_range]; omega) sz5) (fun k hk => ⟨_, rfl, rfl, ?_⟩) ?_)
  · have hk := List.mem_range.mp hk
    refine rs_op (rs_op (rs_sl (rs_var (d := wD W) rfl (rs_noP (rs_part (rs_var (d := .int (a : Int)) rfl (rs_asI (rs_slS (Nat.le_trans (show _ ≤ 100000 by omega) sz5) ?_))))))))
    rw [cut_take]
    refine rs_op (rs_var (d := wD A) rfl (rs_op (rs_call (rs_cons (rs_op (rs_op (rs_var rfl (rs_c (ix hv3 rfl (rs_var (d := .int (k : Int)) rfl (rs_add (rs_nil (rs_int (rs_c (rs_mod (by omega) ?_)))))))))))))))
    have e0 : 0 ≤ (v3 + (k : Int)) % 26 := by omega
    have e1 : ((v3 + (k : Int)) % 26).toNat < A.length := by omega
    refine rs_ixS (n := A.getD ((v3 + (k : Int)) % 26).toNat 0) ⟨Nat.le_trans (show _ ≤ 100000 by omega) sz5, at_pos e0 (by rw [List.getD_eq_getElem?_getD, List.getElem?_eq_getElem e1]; rfl)⟩ ?_
    refine rs_addS (Nat.le_trans (show _ ≤ 100000 by rw [List.length_take]; simp; omega) sz5) (rs_var (d := wD ((W.take (b + 1)).drop (a + 1))) rfl (rs_addS (Nat.le_trans (show _ ≤ 100000 by rw [List.length_append, List.length_take, List.length_drop, List.length_take]; simp; omega) sz5) rfl))
  · refine ⟨(List.range m).map fun (k : Nat) => (W.take a ++ [A.getD ((v3 + (k : Int)) % 26).toNat 0]) ++ (W.take (b + 1)).drop (a + 1), by rw [List.map_map]; rfl, by rw [List.length_map, List.length_range], fun w hw => ?_⟩
    obtain ⟨k, hk, rfl⟩ := List.mem_map.mp hw
    have e1 : ((v3 + (k : Int)) % 26).toNat < A.length := by omega
    refine ⟨by simp; omega, by simp [hWl]; omega, fun c hc => ?_⟩
    rcases List.mem_append.mp hc with hc | hc
    · rcases List.mem_append.mp hc with hc | hc
      · exact hWa c (List.mem_of_mem_take hc)
      · rw [List.mem_singleton.mp hc, List.getD_eq_getElem?_getD, List.getElem?_eq_getElem e1]
        exact hAl _ (List.getElem_mem e1)
    · exact hWa c (List.mem_of_mem_take (List.mem_of_mem_drop hc))
theorem spc_app (c : Nat) (a b : List Nat) : spc c (a ++ c :: b) = spc c a ++ spc c b := by
  have : ∀ (a acc : List Nat), TL.spl [c] 0 acc (a ++ c :: b) = TL.spl [c] 0 acc a ++ TL.spl [c] 0 [] b := by
    intro a
    induction a with
    | nil => intro acc; rw [List.nil_append, spl_cons, if_pos rfl, TL.spl_nil]; rfl
    | cons x r ih =>
      intro acc
      rw [List.cons_append, spl_cons, spl_cons]
      by_cases h : x = c
      · rw [if_pos h, if_pos h, ih]; rfl
      · rw [if_neg h, if_neg h, ih]
  exact this a []
theorem brk_no {c : Nat} : ∀ {a : List Nat}, c ∉ a → brk c a = none
  | [], _ => rfl
  | x :: r, h => by
    unfold brk
    rw [if_neg (fun e => h (by rw [e]; exact List.mem_cons_self ..)), brk_no fun m => h (List.mem_cons_of_mem _ m)]
theorem brk_mid {c : Nat} : ∀ {p q : List Nat}, c ∉ p → brk c (p ++ c :: q) = some (p, q)
  | [], q, _ => by show brk c (c :: q) = _; unfold brk; rw [if_pos rfl]
  | x :: r, q, h => by
    show brk c (x :: (r ++ c :: q)) = _
    unfold brk
    rw [if_neg (fun e => h (by rw [e]; exact List.mem_cons_self ..)), brk_mid fun m => h (List.mem_cons_of_mem _ m)]
theorem rdP_app : ∀ (ws us : List (List Nat)) (k : Ln) (ts : List TT) (ls : List Ln), rdP (ws ++ us) k ts ls = (rdP ws k ts ls).bind fun y => rdP us y.2.2 y.1 y.2.1
  | [], us, k, ts, ls => by rw [rdP]; rfl
  | w :: ws, us, k, ts, ls => by
    rw [List.cons_append, rdP, rdP]
    by_cases h : k = .an ∧ (lkW w).isSome = true
    · rw [if_pos h, if_pos h, rdP_app]
    · rw [if_neg h, if_neg h]
      cases testP w with
      | none => rfl
      | some t => dsimp only; rw [rdP_app]
/-- a written test: no blank in it, no link -/
structure Wd (w : List Nat) (t : TT) : Prop where
  bl : 32 ∉ w
  lk : lkW w = none
  te : testP w = some t
  ln : w.length ≤ 17
def KdOk (w : List Nat) : Prop := w = [42] ∨ Nm w
theorem nm_not {w : List Nat} {c : Nat} (h : Nm w) (hc : c < 97) : c ∉ w := fun m => by have := (h.2.2 c m).1; omega
theorem kd_not {w : List Nat} {c : Nat} (h : KdOk w) (hc : c < 97) (h2 : c ≠ 42) : c ∉ w := by
  rcases h with rfl | h
  · simp [h2]
  · exact nm_not h hc
theorem kd_ok {w : List Nat} (h : KdOk w) : okKd w = true := by
  unfold okKd
  rcases h with rfl | h
  · rfl
  · rw [nmB_iff.mpr h, Bool.or_true]
theorem kd_len {w : List Nat} (h : KdOk w) : 0 < w.length ∧ w.length ≤ 8 := by
  rcases h with rfl | h
  · exact ⟨by decide, by decide⟩
  · exact ⟨h.1, h.2.1⟩
theorem lk_none {w : List Nat} (h : 62 ∉ w) (h2 : 43 ∉ w) : lkW w = none := by
  unfold lkW
  rw [if_neg (fun e => h (by rw [e]; exact List.mem_cons_self ..)), if_neg (fun e => h2 (by rw [e]; exact List.mem_cons_self ..))]
theorem wd_kind {k : List Nat} (h : KdOk k) : Wd k (k, []) := ⟨kd_not h (by omega) (by omega), lk_none (kd_not h (by omega) (by omega)) (kd_not h (by omega) (by omega)), by
  unfold testP
  rw [brk_no (kd_not h (by omega) (by omega))]
  dsimp only
  rw [if_pos (kd_ok h)], by have := kd_len h; omega⟩
theorem wd_mark {k m : List Nat} (h : KdOk k) (hm : Nm m) : Wd (k ++ 46 :: m) (k, m) := by
  have n : ∀ c : Nat, c < 97 → c ≠ 42 → c ≠ 46 → c ∉ k ++ 46 :: m := fun c h1 h2 h3 hc => by
    rcases List.mem_append.mp hc with hc | hc
    · exact kd_not h h1 h2 hc
    · rcases List.mem_cons.mp hc with hc | hc
      · exact h3 hc
      · exact nm_not hm h1 hc
  refine ⟨n 32 (by omega) (by omega) (by omega), lk_none (n 62 (by omega) (by omega) (by omega)) (n 43 (by omega) (by omega) (by omega)), ?_, ?_⟩
  · unfold testP
    rw [brk_mid (kd_not h (by omega) (by omega))]
    dsimp only
    rw [kd_ok h, nmB_iff.mpr hm]
    rfl
  · have := kd_len h
    have := hm.2.1
    rw [List.length_append, List.length_cons]
    omega
theorem rdP_one {w : List Nat} {t : TT} (h : Wd w t) (k : Ln) (ts : List TT) (ls : List Ln) : rdP [w] k ts ls = some (ts ++ [t], ls ++ [k], .an) := by
  rw [rdP, if_neg (fun e => by rw [h.lk] at e; cases e.2), h.te]
  rfl
/-- how a link is written -/
def sepL : Ln → List Nat
  | .st => [32]
  | .an => [32]
  | .pa => [32, 62, 32]
  | .el => [32, 43, 32]
theorem rdP_first {w : List Nat} {t : TT} (h : Wd w t) : rdP (spc 32 w) .st [] [] = some ([t], [.st], .an) := by
  rw [spc_none h.bl, rdP_one h]
  rfl
theorem rdP_more {x w : List Nat} {t : TT} {ts : List TT} {ls : List Ln} {k : Ln} (hk : k ≠ .st) (hx : rdP (spc 32 x) .st [] [] = some (ts, ls, .an)) (h : Wd w t) : rdP (spc 32 (x ++ sepL k ++ w)) .st [] [] = some (ts ++ [t], ls ++ [k], .an) := by
  cases k with
  | st => exact (hk rfl).elim
  | an =>
    show rdP (spc 32 (x ++ [32] ++ w)) _ _ _ = _
    rw [show x ++ [32] ++ w = x ++ 32 :: w by simp, spc_app, rdP_app, hx]
    show rdP (spc 32 w) .an ts ls = _
    rw [spc_none h.bl, rdP_one h]
  | pa =>
    show rdP (spc 32 (x ++ [32, 62, 32] ++ w)) _ _ _ = _
    rw [show x ++ [32, 62, 32] ++ w = x ++ 32 :: ([62] ++ 32 :: w) by simp, spc_app, rdP_app, hx, spc_app, spc_none (a := [62]) (by decide), spc_none h.bl]
    show rdP [[62], w] .an ts ls = _
    rw [rdP, if_pos ⟨rfl, rfl⟩]
    exact rdP_one h .pa ts ls
  | el =>
    show rdP (spc 32 (x ++ [32, 43, 32] ++ w)) _ _ _ = _
    rw [show x ++ [32, 43, 32] ++ w = x ++ 32 :: ([43] ++ 32 :: w) by simp, spc_app, rdP_app, hx, spc_app, spc_none (a := [43]) (by decide), spc_none h.bl]
    show rdP [[43], w] .an ts ls = _
    rw [rdP, if_pos ⟨rfl, rfl⟩]
    exact rdP_one h .el ts ls
theorem readT_of {x : List Nat} {ts : List TT} {ls : List Ln} (h : rdP (spc 32 x) .st [] [] = some (ts, ls, .an)) (h4 : ts.length ≤ 4) : readT x = some (ts, ls) := by
  unfold readT
  rw [h]
  dsimp only
  rw [if_pos ⟨rfl, h4⟩]
end
section
def DRP : List Int := [4, 5, 4, 3, 5, 4, 3, 5, 4, 3, 5, 4, 3]
theorem drp_k : ∀ k < 4, DRP[3 * k + 1]? = some 5 ∧ DRP[3 * k + 2]? = some 4 := by decide
theorem drp_s : ∀ k < 4, 0 < k → DRP[3 * k]? = some 3 := by decide
theorem drawn_sp (c : Int) (ks ms : List (List Nat)) (hk : ks.length = 5) (hm : ms.length = 2) (pk : ∀ w ∈ ks, KdOk w) (pm : ∀ w ∈ ms, Nm w) :
    Rs (F_l_drawn [.int c, .lst (ks.map wD), .lst (ms.map wD)]) (fun d => ∃ t ts ls, d = wD t ∧ t.length ≤ 160 ∧ readT t = some (ts, ls)) nE := by
  refine rs_run ?_
  unfold Fb_l_drawn
  show Ss (seqF _ _ [some (.int c), some (.lst (ks.map wD)), some (.lst (ms.map wD)), none, none, none]) _ _ _ _ _
  refine ss_seq (ss_set (rs_call (rs_cons (rs_var rfl (rs_cons (rs_lst (rs_cons (rs_c (rs_cons (rs_c (rs_cons (rs_c (rs_cons (rs_c (rs_cons (rs_c (rs_cons (rs_c (rs_cons (rs_c (rs_cons (rs_c (rs_cons (rs_c (rs_cons (rs_c (rs_cons (rs_c (rs_cons (rs_c (rs_cons (rs_c (rs_nil ⟨Nat.le_of_ble_eq_true rfl, rs_nil ?_⟩)))))))))))))))))))))))))))))))))
  show Rs (F_l_row [.int c, iL DRP]) _ _
  refine row_of c DRP (by decide) (by decide) fun vs hf => ?_
  obtain ⟨v0, hv0, h00, h01⟩ := hf.get (k := 0) (l := 4) rfl
  have ix : ∀ {k : Nat} {v i : Int} {Q : D → Prop} {E : Str → List Str → List D → Prop}, vs[k]? = some v → i = (k : Int) → Q (.int v) → Rs (ixD (iL vs) (.int i)) Q E := fun h e q => by
    subst e
    exact rs_ixL (atI_nat (by rw [List.getElem?_map, h]; rfl)) q
  refine ss_seq (ss_set (rs_c ?_))
  refine ss_seq (ss_rng (v0 + 1).toNat (fun k r => ∃ (t : List Nat) (x5 : Option D), r = [some (.int c), some (.lst (ks.map wD)), some (.lst (ms.map wD)), some (iL vs), some (wD t), x5] ∧ t.length ≤ 40 * k ∧ (k = 0 → t = []) ∧ (0 < k → ∃ ts ls, ts.length = k ∧ rdP (spc 32 t) .st [] [] = some (ts, ls, .an))) ?_ (by omega) ⟨[], none, rfl, by simp, fun _ => rfl, fun h => by omega⟩ ?_ ?_)
  · refine rs_op (rs_op (rs_var rfl (rs_c (ix hv0 rfl (rs_c (rs_add ?_))))))
    rw [Int.toNat_of_nonneg (by omega)]
  · rintro k r hkn ⟨t, x5, rfl, htl, ht0, ht1⟩
    have hk4 : k < 4 := by omega
    obtain ⟨d1, d2⟩ := drp_k k hk4
    obtain ⟨v1, hv1, h10, h11⟩ := hf.get d1
    obtain ⟨v2, hv2, h20, h21⟩ := hf.get d2
    obtain ⟨kd, hkd⟩ : ∃ w, ks[v1.toNat]? = some w := ⟨_, List.getElem?_eq_getElem (by omega)⟩
    have pkd := pk kd (List.mem_of_getElem? hkd)
    have lkd := kd_len pkd
    show Ss (Lp_l_drawn_1 [some (.int c), some (.lst (ks.map wD)), some (.lst (ms.map wD)), some (iL vs), some (wD t), some (.int (k : Int))]) _ _ _ _ _
    unfold Lp_l_drawn_1
    refine ss_seq (ss_cut (fun r => ∃ s : List Nat, s.length ≤ 3 ∧ r = [some (.int c), some (.lst (ks.map wD)), some (.lst (ms.map wD)), some (iL vs), some (wD (t ++ s)), some (.int (k : Int))] ∧ (k = 0 → s = []) ∧ (0 < k → ∃ l, l ≠ Ln.st ∧ s = sepL l)) ?_ ?_)
    · refine ss_if (rs_T (rs_op (rs_var rfl (rs_c (rs_gt (rs_asB ⟨fun z => ?_, fun z => ?_⟩))))))
      · have z := of_decide_eq_true z
        have z : 0 < k := by omega
        obtain ⟨v3, hv3, h30, h31⟩ := hf.get (drp_s k hk4 z)
        refine ss_set (rs_op (rs_var (d := wD t) rfl (rs_op (rs_lst (rs_cons (rs_c (rs_cons (rs_c (rs_cons (rs_c (rs_nil ⟨Nat.le_of_ble_eq_true rfl, ?_⟩)))))))))))
        refine rs_op (rs_var rfl (rs_op (rs_c (rs_var rfl (rs_mul (Or.inl (small_of (by omega) (by omega))) (ix hv3 (by omega) ?_))))))
        obtain ⟨l, hl1, hl2⟩ : ∃ l, l ≠ Ln.st ∧ atI [D.str (Sg [32]), D.str (Sg [32, 62, 32]), D.str (Sg [32, 43, 32])] v3 = some (wD (sepL l)) := by
          have : v3 = 0 ∨ v3 = 1 ∨ v3 = 2 := by omega
          rcases this with rfl | rfl | rfl
          · exact ⟨.an, by decide, rfl⟩
          · exact ⟨.pa, by decide, rfl⟩
          · exact ⟨.el, by decide, rfl⟩
        have hsl : (sepL l).length ≤ 3 := by cases l <;> decide
        refine rs_ixL hl2 (rs_addS (Nat.le_trans (show _ ≤ 100000 by omega) sz5) ?_)
        exact ⟨sepL l, hsl, rfl, fun h => by omega, fun _ => ⟨l, hl1, rfl⟩⟩
      · have z := of_decide_eq_false z
        refine ss_nx ⟨[], by simp, by rw [List.append_nil], fun _ => rfl, fun h => by omega⟩
    rintro _ ⟨s, hsl, rfl, hs0, hs1⟩
    refine ss_seq (ss_set (rs_op (rs_var (d := wD (t ++ s)) rfl (rs_op (rs_var rfl (rs_op (rs_var rfl (rs_op (rs_op (rs_c (rs_var rfl (rs_mul (Or.inl (small_of (by omega) (by omega))) (rs_c (rs_add (ix hv1 (by omega) ?_)))))))))))))))
    refine rs_ixL (d := wD kd) (at_pos h10 (by rw [List.getElem?_map, hkd]; rfl)) (rs_addS (Nat.le_trans (show _ ≤ 100000 by rw [List.length_append]; omega) sz5) ?_)
    have fin : ∀ (w : List Nat) (tt : TT), Wd w tt → ∃ ts ls, ts.length = k + 1 ∧ rdP (spc 32 (t ++ s ++ w)) .st [] [] = some (ts, ls, .an) := fun w tt hw => by
      by_cases h0 : k = 0
      · rw [ht0 h0, hs0 h0]
        exact ⟨[tt], [.st], by rw [h0]; rfl, rdP_first hw⟩
      · obtain ⟨ts, ls, e1, e2⟩ := ht1 (by omega)
        obtain ⟨l, e3, rfl⟩ := hs1 (by omega)
        exact ⟨ts ++ [tt], ls ++ [l], by rw [List.length_append, e1]; rfl, rdP_more e3 e2 hw⟩
    refine ss_if (rs_T (rs_op (rs_op (rs_var rfl (rs_op (rs_op (rs_c (rs_var rfl (rs_mul (Or.inl (small_of (by omega) (by omega))) (rs_c (rs_add (ix hv2 (by omega) (rs_c (rs_gt (rs_asB ⟨fun z => ?_, fun z => ?_⟩)))))))))))))))
    · have z := of_decide_eq_true z
      obtain ⟨mk, hmk⟩ : ∃ w, ms[(v2 - 2).toNat]? = some w := ⟨_, List.getElem?_eq_getElem (by omega)⟩
      have pmk := pm mk (List.mem_of_getElem? hmk)
      have lmk := pmk.2.1
      refine ss_set (rs_op (rs_op (rs_var (d := wD (t ++ s ++ kd)) rfl (rs_c (rs_addS (Nat.le_trans (show _ ≤ 100000 by rw [List.length_append, List.length_append]; simp; omega) sz5) ?_)))))
      refine rs_op (rs_var rfl (rs_op (rs_op (rs_var rfl (rs_op (rs_op (rs_c (rs_var rfl (rs_mul (Or.inl (small_of (by omega) (by omega))) (rs_c (rs_add (ix hv2 (by omega) (rs_c (rs_sub ?_))))))))))))))
      refine rs_ixL (d := wD mk) (at_pos (by omega) (by rw [List.getElem?_map, hmk]; rfl)) (rs_addS (Nat.le_trans (show _ ≤ 100000 by rw [List.length_append, List.length_append, List.length_append]; simp; omega) sz5) ?_)
      refine ⟨t ++ s ++ (kd ++ 46 :: mk), some (.int (k : Int)), ?_, ?_, fun h => by omega, fun _ => fin _ _ (wd_mark pkd pmk)⟩
      · rw [show t ++ s ++ kd ++ [46] ++ mk = t ++ s ++ (kd ++ 46 :: mk) by simp]
        rfl
      · simp
        omega
    · refine ss_nx ⟨t ++ s ++ kd, some (.int (k : Int)), rfl, ?_, fun h => by omega, fun _ => fin _ _ (wd_kind pkd)⟩
      simp
      omega
  · rintro r ⟨t, x5, rfl, htl, ht0, ht1⟩
    obtain ⟨ts, ls, e1, e2⟩ := ht1 (by omega)
    refine ss_ret (rs_var (d := wD t) rfl ⟨t, ts, ls, rfl, by omega, readT_of e2 (by omega)⟩)
def Wds (n : Nat) (ds : List D) : Prop := ds.length = n ∧ ∀ d ∈ ds, ∃ w, d = wD w ∧ w.length ≤ 40
theorem Wds.app {n m : Nat} {ds es : List D} (a : Wds n ds) (b : Wds m es) : Wds (n + m) (ds ++ es) := ⟨by rw [List.length_append, a.1, b.1], fun d hd => (List.mem_append.mp hd).elim (a.2 d) (b.2 d)⟩
theorem odd_sp (i : Int) : Rs (F_l_odd [.int i]) (fun d => ∃ t, d = wD t ∧ t.length ≤ 40) nE := by
  refine rs_run ?_
  unfold Fb_l_odd
  show Ss (seqF _ _ [some (.int i), none]) _ _ _ _ _
  refine ss_seq (ss_cut (fun r => ∃ ds, Wds 13 ds ∧ r = [some (.int i), some (.lst ds)]) ?_ ?_)
  · refine ss_set (rs_lst ?_)
    array_get_dec
    refine ⟨_, ⟨rfl, ?_⟩, rfl⟩
    repeat (first | exact List.forall_mem_nil _ | refine List.forall_mem_cons.mpr ⟨⟨_, rfl, by decide⟩, ?_⟩)
  rintro _ ⟨ds, h1, rfl⟩
  refine ss_seq (ss_cut (fun r => ∃ ds, Wds 16 ds ∧ r = [some (.int i), some (.lst ds)]) ?_ ?_)
  · refine ss_set (rs_op (rs_var (d := .lst ds) rfl (rs_lst (rs_cons (rs_c (rs_cons (rs_c (rs_cons (rs_c (rs_nil ⟨Nat.le_of_ble_eq_true rfl, rs_addLL (Nat.le_trans (show _ ≤ 100000 by rw [h1.1]; simp) sz5) ?_⟩))))))))))
    refine ⟨_, h1.app (m := 3) ⟨rfl, ?_⟩, rfl⟩
    repeat (first | exact List.forall_mem_nil _ | refine List.forall_mem_cons.mpr ⟨⟨_, rfl, by decide⟩, ?_⟩)
  rintro _ ⟨ds, h1, rfl⟩
  refine ss_seq (ss_cut (fun r => ∃ ds, Wds 28 ds ∧ r = [some (.int i), some (.lst ds)]) ?_ ?_)
  · refine ss_set (rs_op (rs_var (d := .lst ds) rfl (rs_lst ?_)))
    array_get_dec
    refine rs_addLL (Nat.le_trans (show _ ≤ 100000 by rw [h1.1]; simp) sz5) ?_
    refine ⟨_, h1.app (m := 12) ⟨rfl, ?_⟩, rfl⟩
    repeat (first | exact List.forall_mem_nil _ | refine List.forall_mem_cons.mpr ⟨⟨_, rfl, by decide⟩, ?_⟩)
  rintro _ ⟨ds, h1, rfl⟩
  refine ss_ret (rs_op (rs_op (rs_var (d := .lst ds) rfl (rs_lst (rs_cons (rs_c (rs_cons (rs_c (rs_nil ⟨Nat.le_of_ble_eq_true rfl, rs_addLL (Nat.le_trans (show _ ≤ 100000 by rw [h1.1]; simp) sz5) ?_⟩)))))))))
  refine rs_op (rs_call (rs_cons (rs_var rfl (rs_nil (rs_int (rs_c (rs_mod (by omega) ?_)))))))
  have h2 : Wds 30 (ds ++ [D.str (Sg [97, 32, 98, 32, 99, 32, 100, 32, 101]), D.str (Sg [97, 32, 62, 32, 98, 32, 43, 32, 99, 46, 120, 32, 42, 32, 62, 32, 42, 46, 121])]) := h1.app (m := 2) ⟨rfl, by
    repeat (first | exact List.forall_mem_nil _ | refine List.forall_mem_cons.mpr ⟨⟨_, rfl, by decide⟩, ?_⟩)⟩
  generalize ds ++ [D.str (Sg [97, 32, 98, 32, 99, 32, 100, 32, 101]), D.str (Sg [97, 32, 62, 32, 98, 32, 43, 32, 99, 46, 120, 32, 42, 32, 62, 32, 42, 46, 121])] = es at h2
  have e1 : (i % 30).toNat < es.length := by rw [h2.1]; omega
  obtain ⟨w, hw, hwl⟩ := h2.2 _ (List.getElem_mem e1)
  exact rs_ixL (at_pos (by omega) (List.getElem?_eq_getElem e1)) ⟨w, hw, hwl⟩
theorem bent_sp (c : Int) (t : List Nat) (ht : t.length ≤ 2000) : Rs (F_l_bent [.int c, wD t]) (fun d => ∃ u, d = wD u ∧ u.length ≤ 4 * t.length + 40) nE := by
  refine rs_run ?_
  unfold Fb_l_bent
  show Ss (seqF _ _ [some (.int c), some (wD t), none, none, none, none, none]) _ _ _ _ _
  refine ss_seq (ss_set (rs_call (rs_cons (rs_var rfl (rs_cons (rs_lst (rs_cons (rs_c (rs_cons (rs_c (rs_cons (rs_c (rs_cons (rs_c (rs_nil ⟨Nat.le_of_ble_eq_true rfl, rs_nil ?_⟩)))))))))))))))
  show Rs (F_l_row [.int c, iL [6, 90, 91, 3]]) _ _
  refine row_of c [6, 90, 91, 3] (by decide) (by decide) fun vs hf => ?_
  obtain ⟨v0, hv0, h00, h01⟩ := hf.get (k := 0) (l := 6) rfl
  obtain ⟨v1, hv1, h10, h11⟩ := hf.get (k := 1) (l := 90) rfl
  obtain ⟨v2, hv2, h20, h21⟩ := hf.get (k := 2) (l := 91) rfl
  obtain ⟨v3, hv3, h30, h31⟩ := hf.get (k := 3) (l := 3) rfl
  have ix : ∀ {k : Nat} {v i : Int} {Q : D → Prop} {E : Str → List Str → List D → Prop}, vs[k]? = some v → i = (k : Int) → Q (.int v) → Rs (ixD (iL vs) (.int i)) Q E := fun h e q => by
    subst e
    exact rs_ixL (atI_nat (by rw [List.getElem?_map, h]; rfl)) q
  have sl : ∀ {lo hi : Option Int} {Q : D → Prop} {E : Str → List Str → List D → Prop}, (∀ u : List Nat, u.length ≤ t.length → Q (wD u)) → Rs (slD (wD t) lo hi) Q E := fun q => rs_slS (Nat.le_trans (show _ ≤ 100000 by omega) sz5) (q _ (cut_len _ _ _))
  refine ss_seq (ss_cut (fun r => ∃ A : List Nat, A.length = 91 ∧ r = [some (.int c), some (wD t), some (iL vs), some (wD A), none, none, none]) (ss_set (rs_c ⟨_, rfl, rfl⟩)) ?_)
  rintro _ ⟨A, hA, rfl⟩
  refine ss_seq (ss_set (rs_op (rs_call (rs_cons (rs_op (rs_var rfl (rs_c (ix hv1 rfl (rs_nil (rs_int (rs_op (rs_call (rs_cons (rs_var (d := wD t) rfl (rs_nil (rs_lenS (Nat.le_trans (show _ ≤ 100000 by omega) sz5) (rs_c (rs_add (rs_mod (by omega) ?_)))))))))))))))))))
  generalize v1 % ((t.length : Int) + 1) = a
  have e1 : v2.toNat < A.length := by omega
  refine ss_seq (ss_set (rs_op (rs_var (d := wD A) rfl (rs_op (rs_var rfl (rs_c (ix hv2 rfl ?_)))))))
  refine rs_ixS (n := A.getD v2.toNat 0) ⟨Nat.le_trans (show _ ≤ 100000 by omega) sz5, at_pos h20 (by rw [List.getD_eq_getElem?_getD, List.getElem?_eq_getElem e1]; rfl)⟩ ?_
  refine ss_seq (ss_cut (fun r => ∃ n : Nat, r = [some (.int c), some (wD t), some (iL vs), some (wD A), some (.int a), some (wD [n]), none]) ?_ ?_)
  · refine ss_if (rs_T (rs_op (rs_op (rs_var rfl (rs_c (ix hv3 rfl (rs_c (rs_gt (rs_asB ⟨fun _ => ?_, fun _ => ss_nx ⟨_, rfl⟩⟩)))))))))
    refine ss_set (rs_op (rs_c (rs_op (rs_call (rs_cons (rs_op (rs_var rfl (rs_c (ix hv2 rfl (rs_nil (rs_int (rs_c (rs_mod (by omega) ?_)))))))))))))
    obtain ⟨n, hn⟩ : ∃ n, atI [32, 46, 42, 62, 43, 97, 122] (v2 % 7) = some n := by
      have : v2 % 7 = 0 ∨ v2 % 7 = 1 ∨ v2 % 7 = 2 ∨ v2 % 7 = 3 ∨ v2 % 7 = 4 ∨ v2 % 7 = 5 ∨ v2 % 7 = 6 := by omega
      rcases this with h | h | h | h | h | h | h <;> rw [h] <;> exact ⟨_, rfl⟩
    exact rs_ixS (n := n) ⟨Nat.le_of_ble_eq_true rfl, hn⟩ ⟨n, rfl⟩
  rintro _ ⟨n, rfl⟩
  have way : ∀ (w : Int) {F K : Rho → SR} {x6 : Option D}, Ss (F [some (.int c), some (wD t), some (iL vs), some (wD A), some (.int a), some (wD [n]), x6]) (fun _ => False) (fun d => ∃ u, d = wD u ∧ u.length ≤ 4 * t.length + 40) nR nR (fun _ => nE) →
      Ss (K [some (.int c), some (wD t), some (iL vs), some (wD A), some (.int a), some (wD [n]), x6]) (fun _ => ∃ u, D.non = wD u ∧ u.length ≤ 4 * t.length + 40) (fun d => ∃ u, d = wD u ∧ u.length ≤ 4 * t.length + 40) nR nR (fun _ => nE) →
      Ss (seqF (ifF (dT (dOp eqD (dOp ixD (dVar 2) (dC (.int 0))) (dC (.int w)))) F .nx) K [some (.int c), some (wD t), some (iL vs), some (wD A), some (.int a), some (wD [n]), x6]) (fun _ => ∃ u, D.non = wD u ∧ u.length ≤ 4 * t.length + 40) (fun d => ∃ u, d = wD u ∧ u.length ≤ 4 * t.length + 40) nR nR (fun _ => nE) := by
    intro w F K x6 h1 h2
    refine ss_seq (ss_if (rs_T (rs_op (rs_op (rs_var rfl (rs_c (ix hv0 rfl (rs_c (rs_eqI (rs_asB ⟨fun _ => ?_, fun _ => ss_nx h2⟩))))))))))
    exact h1.imp (fun _ z => z.elim) (fun _ z => z) (fun _ z => z) (fun _ z => z) fun _ _ _ _ z => z
  refine way 0 ?_ (way 1 ?_ (way 2 ?_ (way 3 ?_ (way 4 ?_ ?_))))
  · refine ss_ret (rs_op (rs_sl (rs_var (d := wD t) rfl (rs_noP (rs_part (rs_var rfl (rs_asI (sl fun u1 l1 => ?_))))))))
    refine rs_sl (rs_var (d := wD t) rfl (rs_part (rs_op (rs_var rfl (rs_c (rs_add (rs_asI (rs_noP (sl fun u2 l2 => ?_)))))))))
    exact rs_addS (Nat.le_trans (show _ ≤ 100000 by omega) sz5) ⟨_, rfl, by simp; omega⟩
  · refine ss_ret (rs_op (rs_op (rs_sl (rs_var (d := wD t) rfl (rs_noP (rs_part (rs_var rfl (rs_asI (sl fun u1 l1 => ?_)))))))))
    refine rs_var (d := wD [n]) rfl (rs_addS (Nat.le_trans (show _ ≤ 100000 by first | omega | (simp; omega)) sz5) ?_)
    refine rs_sl (rs_var (d := wD t) rfl (rs_part (rs_var rfl (rs_asI (rs_noP (sl fun u2 l2 => ?_))))))
    exact rs_addS (Nat.le_trans (show _ ≤ 100000 by first | omega | (simp; omega)) sz5) ⟨_, rfl, by simp; omega⟩
  · refine ss_ret (rs_op (rs_op (rs_sl (rs_var (d := wD t) rfl (rs_noP (rs_part (rs_var rfl (rs_asI (sl fun u1 l1 => ?_)))))))))
    refine rs_var (d := wD [n]) rfl (rs_addS (Nat.le_trans (show _ ≤ 100000 by first | omega | (simp; omega)) sz5) ?_)
    refine rs_sl (rs_var (d := wD t) rfl (rs_part (rs_op (rs_var rfl (rs_c (rs_add (rs_asI (rs_noP (sl fun u2 l2 => ?_)))))))))
    exact rs_addS (Nat.le_trans (show _ ≤ 100000 by first | omega | (simp; omega)) sz5) ⟨_, rfl, by simp; omega⟩
  · refine ss_ret (rs_op (rs_op (rs_sl (rs_var (d := wD t) rfl (rs_noP (rs_part (rs_var rfl (rs_asI (sl fun u1 l1 => ?_)))))))))
    refine rs_sl (rs_var (d := wD t) rfl (rs_part (rs_var rfl (rs_asI (rs_part (rs_op (rs_var rfl (rs_c (rs_add (rs_asI (sl fun u2 l2 => ?_)))))))))))
    refine rs_addS (Nat.le_trans (show _ ≤ 100000 by first | omega | (simp; omega)) sz5) ?_
    refine rs_sl (rs_var (d := wD t) rfl (rs_part (rs_var rfl (rs_asI (rs_noP (sl fun u3 l3 => ?_))))))
    exact rs_addS (Nat.le_trans (show _ ≤ 100000 by first | omega | (simp; omega)) sz5) ⟨_, rfl, by simp; omega⟩
  · refine ss_seq (ss_set (rs_op (rs_sl (rs_var (d := wD t) rfl (rs_part (rs_op (rs_var rfl (rs_c (rs_add (rs_asI (rs_part (rs_op (rs_var rfl (rs_c (rs_add (rs_asI (sl fun u1 l1 => ?_)))))))))))))))))
    refine rs_sl (rs_var (d := wD t) rfl (rs_part (rs_var rfl (rs_asI (rs_part (rs_op (rs_var rfl (rs_c (rs_add (rs_asI (sl fun u2 l2 => ?_)))))))))))
    refine rs_addS (Nat.le_trans (show _ ≤ 100000 by first | omega | (simp; omega)) sz5) ?_
    refine ss_ret (rs_op (rs_op (rs_sl (rs_var (d := wD t) rfl (rs_noP (rs_part (rs_var rfl (rs_asI (sl fun u3 l3 => ?_)))))))))
    refine rs_var (d := wD (u1 ++ u2)) rfl (rs_addS (Nat.le_trans (show _ ≤ 100000 by first | omega | (simp; omega)) sz5) ?_)
    refine rs_sl (rs_var (d := wD t) rfl (rs_part (rs_op (rs_var rfl (rs_c (rs_add (rs_asI (rs_noP (sl fun u4 l4 => ?_)))))))))
    exact rs_addS (Nat.le_trans (show _ ≤ 100000 by first | omega | (simp; omega)) sz5) ⟨_, rfl, by simp; omega⟩
  · refine ss_ret (rs_call (rs_cons (rs_op (rs_var rfl (rs_c (ix hv2 rfl (rs_nil ?_)))))))
    exact (odd_sp v2).impE (fun d ⟨u, e, h⟩ => ⟨u, e, by omega⟩) fun _ _ _ z => z.elim
end
section
theorem readT_len {l : List Nat} {ts : List TT} {ls : List Ln} (h : readT l = some (ts, ls)) : ts.length ≤ 4 := by
  unfold readT at h
  split at h
  · split at h
    · rename_i c
      cases h
      exact c.2
    · cases h
  · cases h
theorem law_true (ns : List Int) (hl : ns.length ≤ 63) : F_law [.fz (ns.map D.int)] = .ok (.bl true) := Rs.eq (by
  have cell : ∀ (k : Nat) {Q : D → Prop} {E : Str → List Str → List D → Prop}, k ≤ 1000 → (∀ z, Q (.int z)) → Rs (F_l_cell [.fz (ns.map D.int), .int (k : Int)]) Q E := fun k {Q E} hk q => (cell_sp ns k hk).impE (fun d ⟨z, e⟩ => by rw [e]; exact q z) fun _ _ _ z => z.elim
  refine rs_run ?_
  unfold Fb_law
  show Ss (seqF _ _ [some (.fz (ns.map D.int)), none, none, none, none, none, none]) _ _ _ _ _
  refine ss_seq (ss_set (rs_call (rs_cons (rs_call (rs_cons (rs_var rfl (rs_cons (rs_c (rs_nil (cell 0 (by omega) fun c0 => rs_cons (rs_c (rs_nil ?_))))))))))))
  refine (names_sp c0 6 (by omega)).impE ?_ fun _ _ _ z => z.elim
  rintro _ ⟨ws, rfl, hws, hnm⟩
  match ws, hws, hnm with
  | [w0, w1, w2, w3, w4, w5], _, hnm =>
  have n0 : Nm w0 := hnm _ (by simp)
  have n1 : Nm w1 := hnm _ (by simp)
  have n2 : Nm w2 := hnm _ (by simp)
  have n3 : Nm w3 := hnm _ (by simp)
  have n4 : Nm w4 := hnm _ (by simp)
  have n5 : Nm w5 := hnm _ (by simp)
  refine ss_seq (ss_set (rs_call (rs_cons (rs_call (rs_cons (rs_var rfl (rs_cons (rs_c (rs_nil (cell 1 (by omega) fun c1 => rs_cons (rs_op (rs_sl (rs_var rfl (rs_noP (rs_part (rs_c (rs_asI (rs_slL ?_))))))))))))))))))
  refine rs_lst (rs_cons (rs_c (rs_nil ⟨Nat.le_of_ble_eq_true rfl, rs_addLL (Nat.le_of_ble_eq_true rfl) ?_⟩)))
  refine rs_cons (rs_sl (rs_var rfl (rs_part (rs_c (rs_asI (rs_noP (rs_slL (rs_nil ?_))))))))
  show Rs (F_l_drawn [.int c1, .lst ([w0, w1, w2, w3, [42]].map wD), .lst ([w4, w5].map wD)]) _ _
  refine (drawn_sp c1 [w0, w1, w2, w3, [42]] [w4, w5] rfl rfl ?_ ?_).impE ?_ fun _ _ _ z => z.elim
  · intro w hw
    simp only [List.mem_cons, List.not_mem_nil, or_false] at hw
    rcases hw with rfl | rfl | rfl | rfl | rfl
    · exact .inr n0
    · exact .inr n1
    · exact .inr n2
    · exact .inr n3
    · exact .inl rfl
  · intro w hw
    simp only [List.mem_cons, List.not_mem_nil, or_false] at hw
    rcases hw with rfl | rfl
    · exact n4
    · exact n5
  rintro _ ⟨g, gt, gl, rfl, hg, hgr⟩
  refine ss_seq (ss_set (rs_call (rs_cons (rs_call (rs_cons (rs_var rfl (rs_cons (rs_c (rs_nil (cell 2 (by omega) fun c2 => rs_cons (rs_var (d := wD g) rfl (rs_nil ?_))))))))))))
  refine (bent_sp c2 g (by omega)).impE ?_ fun _ _ _ z => z.elim
  rintro _ ⟨g2, rfl, hg2⟩
  refine ss_seq (ss_set (rs_call (rs_cons (rs_call (rs_cons (rs_var rfl (rs_cons (rs_c (rs_nil (cell 3 (by omega) fun c3 => rs_cons (rs_var (d := wD g2) rfl (rs_nil ?_))))))))))))
  refine (bent_sp c3 g2 (by omega)).impE ?_ fun _ _ _ z => z.elim
  rintro _ ⟨g3, rfl, hg3⟩
  refine ss_seq (ss_for (fun _ r => ∃ x5 x6, r = [some (.fz (ns.map D.int)), some (.lst ([w0, w1, w2, w3, w4, w5].map wD)), some (wD g), some (wD g2), some (wD g3), x5, x6]) (rs_it (rs_lst (rs_cons (rs_var (d := wD g) rfl (rs_cons (rs_var (d := wD g2) rfl (rs_cons (rs_var (d := wD g3) rfl (rs_cons ?_))))))))))
  refine rs_call (rs_cons (rs_call (rs_cons (rs_var rfl (rs_cons (rs_c (rs_nil (cell 4 (by omega) fun c4 => rs_nil ?_))))))))
  refine (odd_sp c4).impE ?_ fun _ _ _ z => z.elim
  rintro _ ⟨o, rfl, ho⟩
  refine rs_cons (rs_var (d := wD g) rfl (rs_nil ⟨Nat.le_of_ble_eq_true rfl, rs_itsL ⟨⟨_, _, rfl⟩, ?_, ?_⟩⟩))
  · rintro i d r hd ⟨x5, x6, rfl⟩
    have hd : ∃ l : List Nat, d = wD l ∧ l.length ≤ 9000 := by
      have := List.mem_of_getElem? hd
      simp only [List.mem_cons, List.not_mem_nil, or_false] at this
      rcases this with rfl | rfl | rfl | rfl | rfl
      · exact ⟨g, rfl, by omega⟩
      · exact ⟨g2, rfl, by omega⟩
      · exact ⟨g3, rfl, by omega⟩
      · exact ⟨o, rfl, by omega⟩
      · exact ⟨g, rfl, by omega⟩
    obtain ⟨l, rfl, hl⟩ := hd
    refine ⟨_, rfl, ?_⟩
    unfold Lp_law_1
    refine ss_seq (ss_set (rs_call (rs_cons (rs_var (d := wD l) rfl (rs_nil (Rs.of (l_read_eq hl) ?_))))))
    cases hr : readT l with
    | none =>
      refine ss_if (rs_T (rs_op (rs_var rfl (rs_c (rs_is (rs_asB ⟨fun _ => ?_, fun z => (by cases z)⟩))))))
      exact ss_if (rs_not (rs_T (rs_call (rs_cons (rs_var (d := wD l) rfl (rs_nil (Rs.of (refused_eq hl hr) (rs_asB ⟨fun z => (by cases z), fun _ => ss_nx ⟨_, _, rfl⟩⟩))))))))
    | some y =>
      obtain ⟨ts, ls⟩ := y
      refine ss_if (rs_T (rs_op (rs_var rfl (rs_c (rs_is (rs_asB ⟨fun z => (by cases z), fun _ => ?_⟩))))))
      exact ss_if (rs_not (rs_T (rs_call (rs_cons (rs_var (d := wD l) rfl (rs_cons (rs_var (d := .lst (ts.map wB2)) rfl (rs_cons (rs_var (d := wD g) rfl (rs_nil (Rs.of (let_eq hl (by omega) hr hgr (readT_len hr)) (rs_asB ⟨fun z => (by cases z), fun _ => ss_nx ⟨_, _, rfl⟩⟩))))))))))))
  · rintro r ⟨x5, x6, rfl⟩
    exact ss_ret (rs_c rfl))
end
end Lk
end S_MM_pa
section S_P_walk
set_option Elab.async false
set_option linter.all false
set_option maxRecDepth 100000
set_option maxHeartbeats 4000000
namespace Lk
open PySem L2 Dx
def topS (i : Nat) : Stmt := PySem.Challenge.pw_laidforall_k10_patterns_read.main.body.getD i (.Pass ⟨0, 0, 0, 0⟩)
abbrev s_is_name : Stmt := topS 8
theorem sc_is_name : FnScope ["text", "char"] ["text"] (defScope s_is_name) := ⟨rfl, rfl, rfl, by decide +kernel, rfl, by decide +kernel, by decide +kernel⟩
abbrev s_read_test : Stmt := topS 14
theorem sc_read_test : FnScope ["word", "kind", "dot", "mark"] ["word"] (defScope s_read_test) := ⟨rfl, rfl, rfl, by decide +kernel, rfl, by decide +kernel, by decide +kernel⟩
abbrev s_read_pattern : Stmt := topS 15
theorem sc_read_pattern : FnScope ["text", "tests", "links", "link", "word", "test"] ["text"] (defScope s_read_pattern) := ⟨rfl, rfl, rfl, by decide +kernel, rfl, by decide +kernel, by decide +kernel⟩
abbrev s_Pattern_init : Stmt := inClass (topS 17) 0
theorem sc_Pattern_init : FnScope ["self", "text", "read"] ["self", "text"] (defScope s_Pattern_init) := ⟨rfl, rfl, rfl, by decide +kernel, rfl, by decide +kernel, by decide +kernel⟩
abbrev s_Pattern_str : Stmt := inClass (topS 17) 2
theorem sc_Pattern_str : FnScope ["self"] ["self"] (defScope s_Pattern_str) := ⟨rfl, rfl, rfl, by decide +kernel, rfl, by decide +kernel, by decide +kernel⟩
abbrev s_Pattern_len : Stmt := inClass (topS 17) 3
theorem sc_Pattern_len : FnScope ["self"] ["self"] (defScope s_Pattern_len) := ⟨rfl, rfl, rfl, by decide +kernel, rfl, by decide +kernel, by decide +kernel⟩
abbrev s_Pattern_eq : Stmt := inClass (topS 17) 4
theorem sc_Pattern_eq : FnScope ["self", "other"] ["self", "other"] (defScope s_Pattern_eq) := ⟨rfl, rfl, rfl, by decide +kernel, rfl, by decide +kernel, by decide +kernel⟩
abbrev s_Pattern_asked : Stmt := inClass (topS 17) 5
theorem sc_Pattern_asked : FnScope ["self", "test"] ["self"] (defScope s_Pattern_asked) := ⟨rfl, rfl, rfl, by decide +kernel, rfl, by decide +kernel, by decide +kernel⟩
abbrev s_Pattern_named : Stmt := inClass (topS 17) 6
theorem sc_Pattern_named : FnScope ["self", "test"] ["self"] (defScope s_Pattern_named) := ⟨rfl, rfl, rfl, by decide +kernel, rfl, by decide +kernel, by decide +kernel⟩
abbrev s_l_cell : Stmt := topS 19
theorem sc_l_cell : FnScope ["_law_script", "_law_k"] ["_law_script", "_law_k"] (defScope s_l_cell) := ⟨rfl, rfl, rfl, by decide +kernel, rfl, by decide +kernel, by decide +kernel⟩
abbrev s_l_row : Stmt := topS 20
theorem sc_l_row : FnScope ["_law_cell_here", "_law_limits", "_law_row_here", "_law_rest", "_law_limit", "_law_k", "_law_mixed"] ["_law_cell_here", "_law_limits"] (defScope s_l_row) := ⟨rfl, rfl, rfl, by decide +kernel, rfl, by decide +kernel, by decide +kernel⟩
abbrev s_l_names : Stmt := topS 21
theorem sc_l_names : FnScope ["_law_cell_here", "_law_many", "_law_row_here", "_law_letters", "_law_word", "_law_k", "_law_at", "_law_behind"] ["_law_cell_here", "_law_many"] (defScope s_l_names) := ⟨rfl, rfl, rfl, by decide +kernel, rfl, by decide +kernel, by decide +kernel⟩
abbrev s_l_number : Stmt := topS 22
theorem sc_l_number : FnScope ["_law_value"] ["_law_value"] (defScope s_l_number) := ⟨rfl, rfl, rfl, by decide +kernel, rfl, by decide +kernel, by decide +kernel⟩
abbrev s_l_drawn : Stmt := topS 23
theorem sc_l_drawn : FnScope ["_law_cell_here", "_law_kinds", "_law_marks", "_law_row_here", "_law_text", "_law_k"] ["_law_cell_here", "_law_kinds", "_law_marks"] (defScope s_l_drawn) := ⟨rfl, rfl, rfl, by decide +kernel, rfl, by decide +kernel, by decide +kernel⟩
abbrev s_l_odd : Stmt := topS 24
theorem sc_l_odd : FnScope ["_law_pick", "_law_texts"] ["_law_pick"] (defScope s_l_odd) := ⟨rfl, rfl, rfl, by decide +kernel, rfl, by decide +kernel, by decide +kernel⟩
abbrev s_l_bent : Stmt := topS 25
theorem sc_l_bent : FnScope ["_law_cell_here", "_law_text", "_law_row_here", "_law_signs", "_law_at", "_law_sign", "_law_pair"] ["_law_cell_here", "_law_text"] (defScope s_l_bent) := ⟨rfl, rfl, rfl, by decide +kernel, rfl, by decide +kernel, by decide +kernel⟩
abbrev s_l_name : Stmt := topS 26
theorem sc_l_name : FnScope ["_law_text", "_law_char"] ["_law_text"] (defScope s_l_name) := ⟨rfl, rfl, rfl, by decide +kernel, rfl, by decide +kernel, by decide +kernel⟩
abbrev s_l_read : Stmt := topS 27
theorem sc_l_read : FnScope ["_law_text", "_law_tests", "_law_linked", "_law_word", "_law_dot", "_law_kind"] ["_law_text"] (defScope s_l_read) := ⟨rfl, rfl, rfl, by decide +kernel, rfl, by decide +kernel, by decide +kernel⟩
abbrev s_l_refused : Stmt := topS 28
theorem sc_l_refused : FnScope ["_law_text", "e"] ["_law_text"] (defScope s_l_refused) := ⟨rfl, rfl, rfl, by decide +kernel, rfl, by decide +kernel, by decide +kernel⟩
abbrev s_l_let : Stmt := topS 29
theorem sc_l_let : FnScope ["_law_text", "_law_tests", "_law_other", "_law_pattern", "_law_counts", "_law_due", "_law_one", "_law_k", "_law_told", "_law_same"] ["_law_text", "_law_tests", "_law_other"] (defScope s_l_let) := ⟨rfl, rfl, rfl, by decide +kernel, rfl, by decide +kernel, by decide +kernel⟩
abbrev s_law : Stmt := topS 30
theorem sc_law : FnScope ["_law_script", "_law_names_here", "_law_good", "_law_once", "_law_twice", "_law_text", "_law_tests"] ["_law_script"] (defScope s_law) := ⟨rfl, rfl, rfl, by decide +kernel, rfl, by decide +kernel, by decide +kernel⟩
abbrev s_BadPattern : Stmt := inClass (topS 3) 0
theorem sc_BadPattern : FnScope ["self", "text"] ["self", "text"] (defScope s_BadPattern) := ⟨rfl, rfl, rfl, by decide +kernel, rfl, by decide +kernel, by decide +kernel⟩
structure Txt (w : World) (K : PySem.W.Frag) (mg : Str → Option Value) where
  f_is_name : Addr
  fd_is_name : FuncData
  F_is_name : Fun K "is_name" "is_name" s_is_name f_is_name fd_is_name
  g_is_name : mg "is_name" = some (.ref f_is_name)
  b_is_name : L2.Binds K fd_is_name ["text"] []
  f_read_test : Addr
  fd_read_test : FuncData
  F_read_test : Fun K "read_test" "read_test" s_read_test f_read_test fd_read_test
  g_read_test : mg "read_test" = some (.ref f_read_test)
  b_read_test : L2.Binds K fd_read_test ["word"] []
  f_read_pattern : Addr
  fd_read_pattern : FuncData
  F_read_pattern : Fun K "read_pattern" "read_pattern" s_read_pattern f_read_pattern fd_read_pattern
  g_read_pattern : mg "read_pattern" = some (.ref f_read_pattern)
  b_read_pattern : L2.Binds K fd_read_pattern ["text"] []
  f_Pattern_init : Addr
  fd_Pattern_init : FuncData
  F_Pattern_init : Fun K "__init__" "Pattern.__init__" s_Pattern_init f_Pattern_init fd_Pattern_init
  b_Pattern_init : L2.Binds K fd_Pattern_init ["self", "text"] []
  f_Pattern_str : Addr
  fd_Pattern_str : FuncData
  F_Pattern_str : Fun K "__str__" "Pattern.__str__" s_Pattern_str f_Pattern_str fd_Pattern_str
  b_Pattern_str : L2.Binds K fd_Pattern_str ["self"] []
  f_Pattern_len : Addr
  fd_Pattern_len : FuncData
  F_Pattern_len : Fun K "__len__" "Pattern.__len__" s_Pattern_len f_Pattern_len fd_Pattern_len
  b_Pattern_len : L2.Binds K fd_Pattern_len ["self"] []
  f_Pattern_eq : Addr
  fd_Pattern_eq : FuncData
  F_Pattern_eq : Fun K "__eq__" "Pattern.__eq__" s_Pattern_eq f_Pattern_eq fd_Pattern_eq
  b_Pattern_eq : L2.Binds K fd_Pattern_eq ["self", "other"] []
  f_Pattern_asked : Addr
  fd_Pattern_asked : FuncData
  F_Pattern_asked : Fun K "asked" "Pattern.asked" s_Pattern_asked f_Pattern_asked fd_Pattern_asked
  b_Pattern_asked : L2.Binds K fd_Pattern_asked ["self"] []
  f_Pattern_named : Addr
  fd_Pattern_named : FuncData
  F_Pattern_named : Fun K "named" "Pattern.named" s_Pattern_named f_Pattern_named fd_Pattern_named
  b_Pattern_named : L2.Binds K fd_Pattern_named ["self"] []
  f_l_cell : Addr
  fd_l_cell : FuncData
  F_l_cell : Fun K "_law_cell" "_law_cell" s_l_cell f_l_cell fd_l_cell
  g_l_cell : mg "_law_cell" = some (.ref f_l_cell)
  b_l_cell : L2.Binds K fd_l_cell ["_law_script", "_law_k"] []
  f_l_row : Addr
  fd_l_row : FuncData
  F_l_row : Fun K "_law_row" "_law_row" s_l_row f_l_row fd_l_row
  g_l_row : mg "_law_row" = some (.ref f_l_row)
  b_l_row : L2.Binds K fd_l_row ["_law_cell_here", "_law_limits"] []
  f_l_names : Addr
  fd_l_names : FuncData
  F_l_names : Fun K "_law_names" "_law_names" s_l_names f_l_names fd_l_names
  g_l_names : mg "_law_names" = some (.ref f_l_names)
  b_l_names : L2.Binds K fd_l_names ["_law_cell_here", "_law_many"] []
  f_l_number : Addr
  fd_l_number : FuncData
  F_l_number : Fun K "_law_number" "_law_number" s_l_number f_l_number fd_l_number
  g_l_number : mg "_law_number" = some (.ref f_l_number)
  b_l_number : L2.Binds K fd_l_number ["_law_value"] []
  f_l_drawn : Addr
  fd_l_drawn : FuncData
  F_l_drawn : Fun K "_law_drawn" "_law_drawn" s_l_drawn f_l_drawn fd_l_drawn
  g_l_drawn : mg "_law_drawn" = some (.ref f_l_drawn)
  b_l_drawn : L2.Binds K fd_l_drawn ["_law_cell_here", "_law_kinds", "_law_marks"] []
  f_l_odd : Addr
  fd_l_odd : FuncData
  F_l_odd : Fun K "_law_odd" "_law_odd" s_l_odd f_l_odd fd_l_odd
  g_l_odd : mg "_law_odd" = some (.ref f_l_odd)
  b_l_odd : L2.Binds K fd_l_odd ["_law_pick"] []
  f_l_bent : Addr
  fd_l_bent : FuncData
  F_l_bent : Fun K "_law_bent" "_law_bent" s_l_bent f_l_bent fd_l_bent
  g_l_bent : mg "_law_bent" = some (.ref f_l_bent)
  b_l_bent : L2.Binds K fd_l_bent ["_law_cell_here", "_law_text"] []
  f_l_name : Addr
  fd_l_name : FuncData
  F_l_name : Fun K "_law_name" "_law_name" s_l_name f_l_name fd_l_name
  g_l_name : mg "_law_name" = some (.ref f_l_name)
  b_l_name : L2.Binds K fd_l_name ["_law_text"] []
  f_l_read : Addr
  fd_l_read : FuncData
  F_l_read : Fun K "_law_read" "_law_read" s_l_read f_l_read fd_l_read
  g_l_read : mg "_law_read" = some (.ref f_l_read)
  b_l_read : L2.Binds K fd_l_read ["_law_text"] []
  f_l_refused : Addr
  fd_l_refused : FuncData
  F_l_refused : Fun K "_law_refused" "_law_refused" s_l_refused f_l_refused fd_l_refused
  g_l_refused : mg "_law_refused" = some (.ref f_l_refused)
  b_l_refused : L2.Binds K fd_l_refused ["_law_text"] []
  f_l_let : Addr
  fd_l_let : FuncData
  F_l_let : Fun K "_law_let" "_law_let" s_l_let f_l_let fd_l_let
  g_l_let : mg "_law_let" = some (.ref f_l_let)
  b_l_let : L2.Binds K fd_l_let ["_law_text", "_law_tests", "_law_other"] []
  f_law : Addr
  fd_law : FuncData
  F_law : Fun K "law" "law" s_law f_law fd_law
  g_law : mg "law" = some (.ref f_law)
  b_law : L2.Binds K fd_law ["_law_script"] []
  n_ValueError : mg "ValueError" = none
  n_bool : mg "bool" = none
  n_int : mg "int" = none
  n_isinstance : mg "isinstance" = none
  n_len : mg "len" = none
  n_range : mg "range" = none
  n_str : mg "str" = none
  n_tuple : mg "tuple" = none
  t_LETTERS : Tok
  c_LETTERS : mg "LETTERS" = some (.str "abcdefghijklmnopqrstuvwxyz" t_LETTERS)
  t_MOST_TESTS : Tok
  c_MOST_TESTS : mg "MOST_TESTS" = some (.int 4 t_MOST_TESTS)
  k_LINKS : Addr
  c_LINKS : mg "LINKS" = some (.ref k_LINKS)
  kd_LINKS : ModD K w k_LINKS md_LINKS
  a_BadLine : Addr
  g_BadLine : mg "BadLine" = some (.ref a_BadLine)
  a_BadPattern : Addr
  g_BadPattern : mg "BadPattern" = some (.ref a_BadPattern)
  a_BadValue : Addr
  g_BadValue : mg "BadValue" = some (.ref a_BadValue)
  a_LaidError : Addr
  g_LaidError : mg "LaidError" = some (.ref a_LaidError)
  o_BadPattern : OexC K a_BadPattern
  fI_BadPattern : Addr
  fdI_BadPattern : FuncData
  i_BadPattern : PySem.W.findIn K (.ref a_BadPattern) "__init__" = some (some (.ref fI_BadPattern))
  ti_BadPattern : PySem.W.typeIn K (.ref fI_BadPattern) = some (.type "function")
  FI_BadPattern : Fun K "__init__" "BadPattern.__init__" s_BadPattern fI_BadPattern fdI_BadPattern
  b_BadPattern : L2.Binds K fdI_BadPattern ["self", "text"] []
  no_BadPattern_text : PySem.W.findIn K (.ref a_BadPattern) "text" = some none
  xf_BadPattern : XfC K a_BadPattern
  xc_BadPattern : ExcC K a_BadPattern
  e_BadPattern_BadPattern : PySem.W.exmOne K (.ref a_BadPattern) (.ref a_BadPattern) = some true
  q_BadPattern_BadLine : PySem.W.kitOne K (.ref a_BadPattern) (.ref a_BadLine) = some false
  q_BadPattern_BadValue : PySem.W.kitOne K (.ref a_BadPattern) (.ref a_BadValue) = some false
  q_BadPattern_LaidError : PySem.W.kitOne K (.ref a_BadPattern) (.ref a_LaidError) = some true
  q_BadPattern_ValueError : PySem.W.kitOne K (.ref a_BadPattern) (.type "ValueError") = some true
  a_Pattern : Addr
  g_Pattern : mg "Pattern" = some (.ref a_Pattern)
  cl_Pattern : L2.Cls K a_Pattern
  mk_Pattern : L2.Mk K a_Pattern f_Pattern_init
  na_Pattern_links : L2.NoAttr K a_Pattern "links"
  na_Pattern_tests : L2.NoAttr K a_Pattern "tests"
  na_Pattern_text : L2.NoAttr K a_Pattern "text"
  m_Pattern___eq__ : L2.Meth K a_Pattern "__eq__" f_Pattern_eq
  m_Pattern___len__ : L2.Meth K a_Pattern "__len__" f_Pattern_len
  m_Pattern___str__ : L2.Meth K a_Pattern "__str__" f_Pattern_str
  pp_Pattern_asked : Addr
  pr_Pattern_asked : L2.PropOf K a_Pattern "asked" pp_Pattern_asked f_Pattern_asked
  pp_Pattern_named : Addr
  pr_Pattern_named : L2.PropOf K a_Pattern "named" pp_Pattern_named f_Pattern_named
  nf_Pattern : PySem.W.notFirst K a_Pattern (.ref a_Pattern) = true
  ic_Pattern : IsC K a_Pattern
  nt_Pattern : ∀ t ∈ tyAll, PySem.W.notFirst K a_Pattern (.type t) = true
def Txt.cm {w : World} {K : PySem.W.Frag} {mg : Str → Option Value} (T : Txt w K mg) : CM := fun n => if n = "BadPattern" then some T.a_BadPattern else if n = "Pattern" then some T.a_Pattern else none
section
variable {P : Program} {w : World} {K : PySem.W.Frag} {mg : Str → Option Value} {base : Heap}
theorem Txt.cm_BadPattern (T : Txt w K mg) : T.cm "BadPattern" = some T.a_BadPattern := by unfold Txt.cm; rw [if_pos rfl]
theorem Txt.cm_Pattern (T : Txt w K mg) : T.cm "Pattern" = some T.a_Pattern := by unfold Txt.cm; rw [if_neg (by decide), if_pos rfl]
theorem Txt.exm_BadPattern (T : Txt w K mg) : ∀ n C b, T.cm n = some C → isM_BadPattern n = some b → PySem.W.exmOne K (.ref C) (.ref T.a_BadPattern) = some b := by
  intro n C b h1 h2
  unfold Txt.cm at h1
  unfold isM_BadPattern at h2
  by_cases e0 : n = "BadPattern"
  · subst e0; simp at h1 h2; subst h1 h2; exact T.e_BadPattern_BadPattern
  simp [e0] at h2
theorem Txt.xf_of_BadPattern (T : Txt w K mg) {C : Addr} (h : ∃ n, T.cm n = some C ∧ isM_BadPattern n = some true) : XfC K C := by
  obtain ⟨n, h1, h2⟩ := h
  unfold Txt.cm at h1
  unfold isM_BadPattern at h2
  by_cases e0 : n = "BadPattern"
  · subst e0; simp at h1; subst h1; exact T.xf_BadPattern
  simp [e0] at h2
theorem Txt.xc_of_BadPattern (T : Txt w K mg) {C : Addr} (h : ∃ n, T.cm n = some C ∧ isM_BadPattern n = some true) : ExcC K C := by
  obtain ⟨n, h1, h2⟩ := h
  unfold Txt.cm at h1
  unfold isM_BadPattern at h2
  by_cases e0 : n = "BadPattern"
  · subst e0; simp at h1; subst h1; exact T.xc_BadPattern
  simp [e0] at h2
theorem Txt.no_of_BadPattern_text (T : Txt w K mg) {C : Addr} (h : ∃ n, T.cm n = some C ∧ isM_BadPattern n = some true) : PySem.W.findIn K (.ref C) "text" = some none := by
  obtain ⟨n, h1, h2⟩ := h
  unfold Txt.cm at h1
  unfold isM_BadPattern at h2
  by_cases e0 : n = "BadPattern"
  · subst e0; simp at h1; subst h1; exact T.no_BadPattern_text
  simp [e0] at h2
theorem Txt.isi_BadLine (T : Txt w K mg) : ∀ n C b, T.cm n = some C → isM_BadLine n = some b → PySem.W.kitOne K (.ref C) (.ref T.a_BadLine) = some b := by
  intro n C b h1 h2
  unfold Txt.cm at h1
  unfold isM_BadLine at h2
  by_cases e0 : n = "BadPattern"
  · subst e0; simp at h1 h2; subst h1 h2; exact T.q_BadPattern_BadLine
  simp [e0] at h2
theorem Txt.isi_BadValue (T : Txt w K mg) : ∀ n C b, T.cm n = some C → isM_BadValue n = some b → PySem.W.kitOne K (.ref C) (.ref T.a_BadValue) = some b := by
  intro n C b h1 h2
  unfold Txt.cm at h1
  unfold isM_BadValue at h2
  by_cases e0 : n = "BadPattern"
  · subst e0; simp at h1 h2; subst h1 h2; exact T.q_BadPattern_BadValue
  simp [e0] at h2
theorem Txt.isi_LaidError (T : Txt w K mg) : ∀ n C b, T.cm n = some C → isM_LaidError n = some b → PySem.W.kitOne K (.ref C) (.ref T.a_LaidError) = some b := by
  intro n C b h1 h2
  unfold Txt.cm at h1
  unfold isM_LaidError at h2
  by_cases e0 : n = "BadPattern"
  · subst e0; simp at h1 h2; subst h1 h2; exact T.q_BadPattern_LaidError
  simp [e0] at h2
theorem Txt.isi_ValueError (T : Txt w K mg) : ∀ n C b, T.cm n = some C → isM_ValueError n = some b → PySem.W.kitOne K (.ref C) (.type "ValueError") = some b := by
  intro n C b h1 h2
  unfold Txt.cm at h1
  unfold isM_ValueError at h2
  by_cases e0 : n = "BadPattern"
  · subst e0; simp at h1 h2; subst h1 h2; exact T.q_BadPattern_ValueError
  simp [e0] at h2
theorem ox_BadPattern (T : Txt w K mg) : FnOk P w K mg base (L2.CX P w) 1 T.fI_BadPattern T.fdI_BadPattern ["self", "text"] (spX1 K T.a_BadPattern "text") := xinit1 T.FI_BadPattern sc_BadPattern rfl rfl fun cdv A outer s H E => pss_one (ps_ost (pv 0) (pv 1))
theorem ok_is_name (T : Txt w K mg) : FnOk P w K mg base (L2.CX P w) 1 T.f_is_name T.fd_is_name ["text"] (spD K T.cm [false] false F_is_name)   := dok (G' := []) (k := 0) T.F_is_name sc_is_name rfl (by decide) fun cdv A outer s H E hr =>
  (ds_cons (ds_if gok0 (dt_not (dt_chain or_le os_ord or_le os_ord (db_of de_int) (db_of (de_bltn call_len cs_len (by rfl) T.n_len (by decide +kernel) (dm_bor (db_var 0 (pv 0) (.inl (by rfl))) dm_nil))) (db_of de_int)))
  (ds_one (ds_ret gok0 rfl de_bl))
  ds_nil)
  (ds_cons (ds_for gok0 (passes_of rfl) rfl (di_str (de_var 0 (pv 0) rfl)) (dg_name 1 sc_is_name.nd rfl (by first | exact Or.inl rfl | exact Or.inr rfl))
  (ds_one (ds_if gok0 (dt_cmp (or_nin (hu65 hr)) os_nin (db_var 1 (pv 1) (.inl (by rfl))) (db_of (de_c (v := .str "abcdefghijklmnopqrstuvwxyz") (pe_glob (by rfl) T.c_LETTERS ⟨_, rfl⟩) fun _ => rp_lit (by decide +kernel))) (by rfl))
  (ds_one (ds_ret gok0 rfl de_bl))
  ds_nil)))
  (ds_one (ds_ret gok0 rfl de_bl))))
theorem ok_read_test (T : Txt w K mg) : FnOk P w K mg base (L2.CX P w) 2 T.f_read_test T.fd_read_test ["word"] (spD K T.cm [false] false F_read_test)   := dok (G' := []) (k := 1) T.F_read_test sc_read_test rfl (by decide) fun cdv A outer s H E hr =>
  (ds_cons (ds_asg gok0 (de_m1 PySem.F.slot_str_partition PySem.F.type_str_partition mt_partition ms_part (db_var 0 (pv 0) (.inl (by rfl))) (db_of (de_strL (by decide +kernel)))) (dg_tup rfl (dg_cons (dg_name 1 sc_read_test.nd rfl (by first | exact Or.inl rfl | exact Or.inr rfl)) (dg_cons (dg_name 2 sc_read_test.nd rfl (by first | exact Or.inl rfl | exact Or.inr rfl)) (dg_cons (dg_name 3 sc_read_test.nd rfl (by first | exact Or.inl rfl | exact Or.inr rfl)) dg_nil)))))
  (ds_cons (ds_if gok0 (PW.pt (dw_and (dt_cmp (or_ne hr.units) os_ne (db_var 1 (pv 1) (.inl (by rfl))) (db_of (de_strL (by decide +kernel))) (nomark _)) (dw_and1 (dt_not (dt_val (de_callV (ok_is_name T) (takes_of rfl rfl rfl rfl) (hr.mono (by decide)) (by rfl) T.g_is_name T.F_is_name.kp T.b_is_name (dm_val (de_var 1 (pv 1) rfl) dm_nil)))))))
  (ds_one (ds_ret gok0 rfl de_non))
  ds_nil)
  (ds_cons (ds_if gok0 (PW.pt (dw_and (dt_cmp (or_ne hr.units) os_ne (db_var 2 (pv 2) (.inl (by rfl))) (db_of (de_strL (by decide +kernel))) (nomark _)) (dw_and1 (dt_not (dt_val (de_callV (ok_is_name T) (takes_of rfl rfl rfl rfl) (hr.mono (by decide)) (by rfl) T.g_is_name T.F_is_name.kp T.b_is_name (dm_val (de_var 3 (pv 3) rfl) dm_nil)))))))
  (ds_one (ds_ret gok0 rfl de_non))
  ds_nil)
  (ds_one (ds_ret gok0 rfl (de_tup (da_cons (de_var 1 (pv 1) rfl) (da_cons (de_var 3 (pv 3) rfl) da_nil))))))))
theorem ok_read_pattern (T : Txt w K mg) : FnOk P w K mg base (L2.CX P w) 3 T.f_read_pattern T.fd_read_pattern ["text"] (spD K T.cm [false] false F_read_pattern)   := dok (G' := []) (k := 2) T.F_read_pattern sc_read_pattern rfl (by decide) fun cdv A outer s H E hr =>
  (ds_cons (ds_setO 1 gok0 (show 1 < 6 by decide) sc_read_pattern.nd rfl (by first | exact Or.inl rfl | exact Or.inr rfl) (de_lst da_nil))
  (ds_cons (ds_setO 2 gok0 (show 2 < 6 by decide) sc_read_pattern.nd rfl (by first | exact Or.inl rfl | exact Or.inr rfl) (de_lst da_nil))
  (ds_cons (ds_set 3 gok0 sc_read_pattern.nd rfl (by first | exact Or.inl rfl | exact Or.inr rfl) (de_strL (by decide +kernel)))
  (ds_cons (ds_for gok0 (passes_of rfl) rfl (di_list (de_pub (de_m1 PySem.F.slot_str_split PySem.F.type_str_split mt_split ms_split (db_var 0 (pv 0) (.inl (by rfl))) (db_of (de_strL (by decide +kernel)))))) (dg_name 4 sc_read_pattern.nd rfl (by first | exact Or.inl rfl | exact Or.inr rfl))
  (ds_cons (ds_if gok0 (PW.pt (dw_and (dt_mdIn T.kd_LINKS (db_var 4 (pv 4) (.inl (by rfl))) (pe_glob (v := .ref T.k_LINKS) (by rfl) T.c_LINKS rfl) (by rfl)) (dw_and1 (dt_cmp (or_eq hr.units) os_eq (db_var 3 (pv 3) (.inl (by rfl))) (db_of (de_strL (by decide +kernel))) (nomark _)))))
  (ds_cons (ds_set 3 gok0 sc_read_pattern.nd rfl (by first | exact Or.inl rfl | exact Or.inr rfl) (de_mdGet T.kd_LINKS (pe_glob (v := .ref T.k_LINKS) (by rfl) T.c_LINKS rfl) (db_var 4 (pv 4) (.inl (by rfl))) (fun _ _ => rfl)))
  (ds_one ds_cont))
  ds_nil)
  (ds_cons (ds_set 5 gok0 sc_read_pattern.nd rfl (by first | exact Or.inl rfl | exact Or.inr rfl) (de_callV (ok_read_test T) (takes_of rfl rfl rfl rfl) (hr.mono (by decide)) (by rfl) T.g_read_test T.F_read_test.kp T.b_read_test (dm_val (de_var 4 (pv 4) rfl) dm_nil)))
  (ds_cons (ds_if gok0 (dt_cmp op_isN os_is (db_var 5 (pv 5) (.inl (by rfl))) (db_of de_non) (nomark _))
  (ds_one (ds_ret gok0 rfl de_non))
  ds_nil)
  (ds_cons (ds_app 1 gok0 rfl (pv 1) (de_var 5 (pv 5) rfl))
  (ds_cons (ds_app 2 gok0 rfl (pv 2) (de_var 3 (pv 3) rfl))
  (ds_one (ds_set 3 gok0 sc_read_pattern.nd rfl (by first | exact Or.inl rfl | exact Or.inr rfl) (de_strL (by decide +kernel))))))))))
  (ds_cons (ds_if gok0 (PW.pt (dw_or (dt_cmp (or_ne hr.units) os_ne (db_var 3 (pv 3) (.inl (by rfl))) (db_of (de_strL (by decide +kernel))) (nomark _)) (dw_or1 (dt_cmp or_gt os_ord (db_of (de_bltn call_len cs_len (by rfl) T.n_len (by decide +kernel) (dm_bor (db_var 1 (pv 1) (.inr (.inl (by trivial)))) dm_nil))) (db_of (de_c (v := .int 4) (pe_glob (by rfl) T.c_MOST_TESTS ⟨_, rfl⟩) fun _ => .int _)) (nomark _)))))
  (ds_one (ds_ret gok0 rfl de_non))
  ds_nil)
  (ds_one (ds_ret gok0 rfl (de_tup (da_cons (de_type call_tuple_of cs_tuple (by rfl) T.n_tuple (by decide +kernel) (dm_bor (db_var 1 (pv 1) (.inr (.inl (by trivial)))) dm_nil)) (da_cons (de_type call_tuple_of cs_tuple (by rfl) T.n_tuple (by decide +kernel) (dm_bor (db_var 2 (pv 2) (.inr (.inl (by trivial)))) dm_nil)) da_nil))))))))))
theorem ok_Pattern_init (T : Txt w K mg) : FnOk P w K mg base (L2.CX P w) 4 T.f_Pattern_init T.fd_Pattern_init ["self", "text"] (spI K T.cm T.a_Pattern [false] F_Pattern_init)   := dokI (k := 3) T.F_Pattern_init sc_Pattern_init T.cm_Pattern rfl (by decide) (fun _ => rfl) fun cdv A outer s H E a hr =>
  (ds_cons (ds_set 2 gok0 sc_Pattern_init.nd rfl (by first | exact Or.inl rfl | exact Or.inr rfl) (de_callV (ok_read_pattern T) (takes_of rfl rfl rfl rfl) (hr.mono (by decide)) (by rfl) T.g_read_pattern T.F_read_pattern.kp T.b_read_pattern (dm_val (de_var 1 (pv 1) rfl) dm_nil)))
  (ds_cons (ds_if gok0 (dt_cmp op_isN os_is (db_var 2 (pv 2) (.inl (by rfl))) (db_of de_non) (nomark _))
  (ds_one (ds_raise1 gok0 T.cm_BadPattern rfl (takes_of rfl rfl rfl rfl) T.o_BadPattern T.i_BadPattern T.ti_BadPattern T.no_BadPattern_text (ox_BadPattern T) (hr.mono (by decide)) T.b_BadPattern (by rfl) T.g_BadPattern (da_cons (de_var 1 (pv 1) rfl) da_nil)))
  ds_nil)
  (ds_cons (ds_fst 0 gok0 T.cm_Pattern T.cl_Pattern T.na_Pattern_text trivial (pv 0) (de_var 1 (pv 1) rfl))
  (ds_cons (ds_fst 0 gok0 T.cm_Pattern T.cl_Pattern T.na_Pattern_tests trivial (pv 0) (de_ix (db_var 2 (pv 2) (.inl (by rfl))) (db_of de_int) (fun _ _ => rfl)))
  (ds_one (ds_fst 0 gok0 T.cm_Pattern T.cl_Pattern T.na_Pattern_links trivial (pv 0) (de_ix (db_var 2 (pv 2) (.inl (by rfl))) (db_of de_int) (fun _ _ => rfl))))))))
theorem ok_Pattern_str (T : Txt w K mg) : FnOk P w K mg base (L2.CX P w) 1 T.f_Pattern_str T.fd_Pattern_str ["self"] (spD K T.cm [true] false F_Pattern_str)   := dok (G' := []) (k := 0) T.F_Pattern_str sc_Pattern_str rfl (by decide) fun cdv A outer s H E hr =>
  (ds_one (ds_ret gok0 rfl (de_type SkE.call_str_str cs_strSS (by rfl) T.n_str (by decide +kernel) (dm_bor (db_of (de_fld T.cm_Pattern T.cl_Pattern T.na_Pattern_text (db_var 0 (pv 0) (.inr (.inr (by rfl)))))) dm_nil))))
theorem ok_Pattern_len (T : Txt w K mg) : FnOk P w K mg base (L2.CX P w) 1 T.f_Pattern_len T.fd_Pattern_len ["self"] (spD K T.cm [true] false F_Pattern_len)   := dok (G' := []) (k := 0) T.F_Pattern_len sc_Pattern_len rfl (by decide) fun cdv A outer s H E hr =>
  (ds_one (ds_ret gok0 rfl (de_bltn call_len cs_len (by rfl) T.n_len (by decide +kernel) (dm_bor (db_of (de_fld T.cm_Pattern T.cl_Pattern T.na_Pattern_tests (db_var 0 (pv 0) (.inr (.inr (by rfl)))))) dm_nil))))
theorem ok_Pattern_eq (T : Txt w K mg) : FnOk P w K mg base (L2.CX P w) 1 T.f_Pattern_eq T.fd_Pattern_eq ["self", "other"] (spD K T.cm [true, true] false F_Pattern_eq)   := dok (G' := []) (k := 0) T.F_Pattern_eq sc_Pattern_eq rfl (by decide) fun cdv A outer s H E hr =>
  (ds_one (ds_ret gok0 rfl (de_and (de_isO T.cm_Pattern T.ic_Pattern T.n_isinstance (by rfl) (by rfl) T.g_Pattern (db_var 1 (pv 1) (.inr (.inr (by rfl))))) (de_one (de_cmp (or_eq hr.units) os_eq (db_of (de_fld T.cm_Pattern T.cl_Pattern T.na_Pattern_text (db_var 0 (pv 0) (.inr (.inr (by rfl)))))) (db_of (de_fld T.cm_Pattern T.cl_Pattern T.na_Pattern_text (db_var 1 (pv 1) (.inr (.inr (by rfl)))))) (nomark _))))))
theorem ok_Pattern_asked (T : Txt w K mg) : FnOk P w K mg base (L2.CX P w) 1 T.f_Pattern_asked T.fd_Pattern_asked ["self"] (spD K T.cm [true] false F_Pattern_asked)   := dok (G' := []) (k := 0) T.F_Pattern_asked sc_Pattern_asked rfl (by decide) fun cdv A outer s H E hr =>
  (ds_one (ds_ret gok0 rfl (de_bltn call_len cs_len (by rfl) T.n_len (by decide +kernel) (dm_bor (db_own (de_lc (own := [("test", 1)]) rfl sc_Pattern_asked.nd (di_tup (de_fld T.cm_Pattern T.cl_Pattern T.na_Pattern_tests (db_var 0 (pv 0) (.inr (.inr (by rfl)))))) (blkOk_by (own := [("test", 1)]) (N := ["self", "test"]) (sc := defScope s_Pattern_asked) (by decide +kernel)) (fun _ _ _ _ _ => (dg_name 1 sc_Pattern_asked.nd rfl (by first | exact Or.inl rfl | exact Or.inr rfl))) (fun _ _ _ _ _ => (dt_one (dt_cmp (or_ne hr.units) os_ne (db_of (de_ix (db_var 1 (pv 1) (.inl (by rfl))) (db_of de_int) (fun _ _ => rfl))) (db_of (de_strL (by decide +kernel))) (nomark _)))) (fun _ _ _ _ _ => (de_var 1 (pv 1) rfl)))) dm_nil))))
theorem ok_Pattern_named (T : Txt w K mg) : FnOk P w K mg base (L2.CX P w) 1 T.f_Pattern_named T.fd_Pattern_named ["self"] (spD K T.cm [true] false F_Pattern_named)   := dok (G' := []) (k := 0) T.F_Pattern_named sc_Pattern_named rfl (by decide) fun cdv A outer s H E hr =>
  (ds_one (ds_ret gok0 rfl (de_bltn call_len cs_len (by rfl) T.n_len (by decide +kernel) (dm_bor (db_own (de_lc (own := [("test", 1)]) rfl sc_Pattern_named.nd (di_tup (de_fld T.cm_Pattern T.cl_Pattern T.na_Pattern_tests (db_var 0 (pv 0) (.inr (.inr (by rfl)))))) (blkOk_by (own := [("test", 1)]) (N := ["self", "test"]) (sc := defScope s_Pattern_named) (by decide +kernel)) (fun _ _ _ _ _ => (dg_name 1 sc_Pattern_named.nd rfl (by first | exact Or.inl rfl | exact Or.inr rfl))) (fun _ _ _ _ _ => (dt_one (dt_cmp (or_ne hr.units) os_ne (db_of (de_ix (db_var 1 (pv 1) (.inl (by rfl))) (db_of de_int) (fun _ _ => rfl))) (db_of (de_strL (by decide +kernel))) (nomark _)))) (fun _ _ _ _ _ => (de_var 1 (pv 1) rfl)))) dm_nil))))
theorem ok_l_cell (T : Txt w K mg) : FnOk P w K mg base (L2.CX P w) 1 T.f_l_cell T.fd_l_cell ["_law_script", "_law_k"] (spD K T.cm [false, false] false F_l_cell)   := dok (G' := []) (k := 0) T.F_l_cell sc_l_cell rfl (by decide) fun cdv A outer s H E hr =>
  (ds_cons (ds_if gok0 (dt_cmp or_lt os_ord (db_var 1 (pv 1) (.inl (by rfl))) (db_of (de_bltn call_len cs_len (by rfl) T.n_len (by decide +kernel) (dm_bor (db_var 0 (pv 0) (.inl (by rfl))) dm_nil))) (nomark _))
  (ds_one (ds_ret gok0 rfl (de_type cr_int cs_int (by rfl) T.n_int (by decide +kernel) (dm_bor (db_of (de_ix (db_var 0 (pv 0) (.inl (by rfl))) (db_var 1 (pv 1) (.inl (by rfl))) (fun _ _ => rfl))) dm_nil))))
  ds_nil)
  (ds_one (ds_ret gok0 rfl (de_op or_add os_add (db_of (de_op or_mulX os_mulX (db_of de_int) (db_var 1 (pv 1) (.inl (by rfl))))) (db_of de_int)))))
theorem ok_l_row (T : Txt w K mg) : FnOk P w K mg base (L2.CX P w) 1 T.f_l_row T.fd_l_row ["_law_cell_here", "_law_limits"] (spD K T.cm [false, false] false F_l_row)   := dok (G' := []) (k := 0) T.F_l_row sc_l_row rfl (by decide) fun cdv A outer s H E hr =>
  (ds_cons (ds_setO 2 gok0 (show 2 < 7 by decide) sc_l_row.nd rfl (by first | exact Or.inl rfl | exact Or.inr rfl) (de_lst da_nil))
  (ds_cons (ds_if gok0 (dt_cmp or_ge os_ord (db_var 0 (pv 0) (.inl (by rfl))) (db_of de_int) (nomark _))
  (ds_cons (ds_set 3 gok0 sc_l_row.nd rfl (by first | exact Or.inl rfl | exact Or.inr rfl) (de_op op_sub os_sub (db_var 0 (pv 0) (.inl (by rfl))) (db_of de_int)))
  (ds_cons (ds_for gok0 (passes_of rfl) rfl (di_list (de_var 1 (pv 1) rfl)) (dg_name 4 sc_l_row.nd rfl (by first | exact Or.inl rfl | exact Or.inr rfl))
  (ds_cons (ds_app 2 gok0 rfl (pv 2) (de_op op_mod os_mod (db_of (de_type cr_int cs_int (by rfl) T.n_int (by decide +kernel) (dm_bor (db_var 3 (pv 3) (.inl (by rfl))) dm_nil))) (db_var 4 (pv 4) (.inl (by rfl)))))
  (ds_one (ds_set 3 gok0 sc_l_row.nd rfl (by first | exact Or.inl rfl | exact Or.inr rfl) (de_op or_fdiv os_fdiv (db_var 3 (pv 3) (.inl (by rfl))) (db_var 4 (pv 4) (.inl (by rfl))))))))
  (ds_pub 2 (ds_one (ds_ret gok0 rfl (de_var 2 (pv 2) rfl))) (.inl rfl))))
  ds_nil)
  (ds_cons (ds_for gok0 (passes_of rfl) rfl (di_rng1 T.n_range (by rfl) (da_cons (de_bltn call_len cs_len (by rfl) T.n_len (by decide +kernel) (dm_bor (db_var 1 (pv 1) (.inl (by rfl))) dm_nil)) da_nil)) (dg_name 5 sc_l_row.nd rfl (by first | exact Or.inl rfl | exact Or.inr rfl))
  (ds_cons (ds_set 6 gok0 sc_l_row.nd rfl (by first | exact Or.inl rfl | exact Or.inr rfl) (de_op op_mod os_mod (db_of (de_type cr_int cs_int (by rfl) T.n_int (by decide +kernel) (dm_bor (db_of (de_op or_add os_add (db_of (de_op or_add os_add (db_of (de_op or_mulX os_mulX (db_var 0 (pv 0) (.inl (by rfl))) (db_of de_int))) (db_of (de_op or_mulX os_mulX (db_var 5 (pv 5) (.inl (by rfl))) (db_of de_int))))) (db_of de_int))) dm_nil))) (db_of de_int)))
  (ds_cons (ds_set 6 gok0 sc_l_row.nd rfl (by first | exact Or.inl rfl | exact Or.inr rfl) (de_op op_mod os_mod (db_of (de_type cr_int cs_int (by rfl) T.n_int (by decide +kernel) (dm_bor (db_of (de_op or_add os_add (db_of (de_op or_add os_add (db_of (de_op or_mulX os_mulX (db_var 6 (pv 6) (.inl (by rfl))) (db_of (de_op or_add os_add (db_of de_int) (db_of (de_op or_mulX os_mulX (db_of de_int) (db_var 5 (pv 5) (.inl (by rfl))))))))) (db_of (de_op or_mulX os_mulX (db_of (de_op or_mulX os_mulX (db_var 5 (pv 5) (.inl (by rfl))) (db_var 5 (pv 5) (.inl (by rfl))))) (db_of de_int))))) (db_of de_int))) dm_nil))) (db_of de_int)))
  (ds_one (ds_app 2 gok0 rfl (pv 2) (de_op op_mod os_mod (db_of (de_type cr_int cs_int (by rfl) T.n_int (by decide +kernel) (dm_bor (db_of (de_op or_fdiv os_fdiv (db_var 6 (pv 6) (.inl (by rfl))) (db_of de_int))) dm_nil))) (db_of (de_ix (db_var 1 (pv 1) (.inl (by rfl))) (db_var 5 (pv 5) (.inl (by rfl))) (fun _ _ => rfl)))))))))
  (ds_pub 2 (ds_one (ds_ret gok0 rfl (de_var 2 (pv 2) rfl))) (.inl rfl)))))
theorem ok_l_names (T : Txt w K mg) : FnOk P w K mg base (L2.CX P w) 2 T.f_l_names T.fd_l_names ["_law_cell_here", "_law_many"] (spD K T.cm [false, false] false F_l_names)   := dok (G' := []) (k := 1) T.F_l_names sc_l_names rfl (by decide) fun cdv A outer s H E hr =>
  (ds_cons (ds_set 2 gok0 sc_l_names.nd rfl (by first | exact Or.inl rfl | exact Or.inr rfl) (de_callV (ok_l_row T) (takes_of rfl rfl rfl rfl) (hr.mono (by decide)) (by rfl) T.g_l_row T.F_l_row.kp T.b_l_row (dm_val (de_var 0 (pv 0) rfl) (dm_val (de_pub (de_lst (da_cons de_int (da_cons de_int (da_cons de_int (da_cons de_int (da_cons de_int (da_cons de_int (da_cons de_int (da_cons de_int (da_cons de_int (da_cons de_int (da_cons de_int (da_cons de_int da_nil)))))))))))))) dm_nil))))
  (ds_cons (ds_set 3 gok0 sc_l_names.nd rfl (by first | exact Or.inl rfl | exact Or.inr rfl) (de_strL (by decide +kernel)))
  (ds_cons (ds_if gok0 (dt_cmp (or_eq hr.units) os_eq (db_of (de_ix (db_var 2 (pv 2) (.inl (by rfl))) (db_of de_int) (fun _ _ => rfl))) (db_of de_int) (nomark _))
  (ds_one (ds_ret gok0 rfl (de_sl (db_own (de_lst (da_cons (de_strL (by decide +kernel)) (da_cons (de_strL (by decide +kernel)) (da_cons (de_strL (by decide +kernel)) (da_cons (de_strL (by decide +kernel)) (da_cons (de_strL (by decide +kernel)) (da_cons (de_strL (by decide +kernel)) (da_cons (de_strL (by decide +kernel)) (da_cons (de_strL (by decide +kernel)) da_nil)))))))))) dp_none (dp_some (de_var 1 (pv 1) rfl)))))
  ds_nil)
  (ds_cons (ds_set 4 gok0 sc_l_names.nd rfl (by first | exact Or.inl rfl | exact Or.inr rfl) (de_m1 PySem.F.slot_str_join PySem.F.type_str_join mt_join ms_join (db_of (de_strL (by decide +kernel))) (db_own (de_lc (own := [("_law_k", 5)]) rfl sc_l_names.nd (di_list (de_sl (db_var 2 (pv 2) (.inl (by rfl))) (dp_some de_int) dp_none)) (blkOk_by (own := [("_law_k", 5)]) (N := ["_law_cell_here", "_law_many", "_law_row_here", "_law_letters", "_law_word", "_law_k", "_law_at", "_law_behind"]) (sc := defScope s_l_names) (by decide +kernel)) (fun _ _ _ _ _ => (dg_name 5 sc_l_names.nd rfl (by first | exact Or.inl rfl | exact Or.inr rfl))) (fun _ _ _ _ _ => dt_nil) (fun _ _ _ _ _ => (de_ix (db_var 3 (pv 3) (.inl (by rfl))) (db_var 5 (pv 5) (.inl (by rfl))) (fun _ _ => rfl)))))))
  (ds_cons (ds_if gok0 (dt_cmp (or_eq hr.units) os_eq (db_of (de_ix (db_var 2 (pv 2) (.inl (by rfl))) (db_of de_int) (fun _ _ => rfl))) (db_of de_int) (nomark _))
  (ds_one (ds_ret gok0 rfl (de_pub (de_lc (own := [("_law_k", 5)]) rfl sc_l_names.nd (di_rng1 T.n_range (by rfl) (da_cons (de_var 1 (pv 1) rfl) da_nil)) (blkOk_by (own := [("_law_k", 5)]) (N := ["_law_cell_here", "_law_many", "_law_row_here", "_law_letters", "_law_word", "_law_k", "_law_at", "_law_behind"]) (sc := defScope s_l_names) (by decide +kernel)) (fun _ _ _ _ _ => (dg_name 5 sc_l_names.nd rfl (by first | exact Or.inl rfl | exact Or.inr rfl))) (fun _ _ _ _ _ => dt_nil) (fun _ _ _ _ _ => (de_sl (db_var 4 (pv 4) (.inl (by rfl))) dp_none (dp_some (de_op or_add os_add (db_var 5 (pv 5) (.inl (by rfl))) (db_of de_int)))))))))
  ds_nil)
  (ds_cons (ds_set 6 gok0 sc_l_names.nd rfl (by first | exact Or.inl rfl | exact Or.inr rfl) (de_op op_mod os_mod (db_of (de_type cr_int cs_int (by rfl) T.n_int (by decide +kernel) (dm_bor (db_of (de_ix (db_var 2 (pv 2) (.inl (by rfl))) (db_of de_int) (fun _ _ => rfl))) dm_nil))) (db_of (de_op or_add os_add (db_of (de_ix (db_var 2 (pv 2) (.inl (by rfl))) (db_of de_int) (fun _ _ => rfl))) (db_of de_int)))))
  (ds_cons (ds_set 7 gok0 sc_l_names.nd rfl (by first | exact Or.inl rfl | exact Or.inr rfl) (de_sl (db_var 4 (pv 4) (.inl (by rfl))) (dp_some (de_op or_add os_add (db_var 6 (pv 6) (.inl (by rfl))) (db_of de_int))) (dp_some (de_op or_add os_add (db_of (de_ix (db_var 2 (pv 2) (.inl (by rfl))) (db_of de_int) (fun _ _ => rfl))) (db_of de_int)))))
  (ds_one (ds_ret gok0 rfl (de_pub (de_lc (own := [("_law_k", 5)]) rfl sc_l_names.nd (di_rng1 T.n_range (by rfl) (da_cons (de_var 1 (pv 1) rfl) da_nil)) (blkOk_by (own := [("_law_k", 5)]) (N := ["_law_cell_here", "_law_many", "_law_row_here", "_law_letters", "_law_word", "_law_k", "_law_at", "_law_behind"]) (sc := defScope s_l_names) (by decide +kernel)) (fun _ _ _ _ _ => (dg_name 5 sc_l_names.nd rfl (by first | exact Or.inl rfl | exact Or.inr rfl))) (fun _ _ _ _ _ => dt_nil) (fun _ _ _ _ _ => (de_op or_add os_add (db_of (de_op or_add os_add (db_of (de_sl (db_var 4 (pv 4) (.inl (by rfl))) dp_none (dp_some (de_var 6 (pv 6) rfl)))) (db_of (de_ix (db_var 3 (pv 3) (.inl (by rfl))) (db_of (de_op op_mod os_mod (db_of (de_type cr_int cs_int (by rfl) T.n_int (by decide +kernel) (dm_bor (db_of (de_op or_add os_add (db_of (de_ix (db_var 2 (pv 2) (.inl (by rfl))) (db_of de_int) (fun _ _ => rfl))) (db_var 5 (pv 5) (.inl (by rfl))))) dm_nil))) (db_of de_int))) (fun _ _ => rfl))))) (db_var 7 (pv 7) (.inl (by rfl))))))))))))))))
theorem ok_l_number (T : Txt w K mg) : FnOk P w K mg base (L2.CX P w) 1 T.f_l_number T.fd_l_number ["_law_value"] (spD K T.cm [false] false F_l_number)   := dok (G' := []) (k := 0) T.F_l_number sc_l_number rfl (by decide) fun cdv A outer s H E hr =>
  (ds_one (ds_ret gok0 rfl (de_and (de_isi "int" T.n_isinstance (by rfl) (by rfl) T.n_int (by decide +kernel) (db_var 0 (pv 0) (.inl (by rfl)))) (de_one (de_not (de_isi "bool" T.n_isinstance (by rfl) (by rfl) T.n_bool (by decide +kernel) (db_var 0 (pv 0) (.inl (by rfl)))))))))
theorem ok_l_drawn (T : Txt w K mg) : FnOk P w K mg base (L2.CX P w) 2 T.f_l_drawn T.fd_l_drawn ["_law_cell_here", "_law_kinds", "_law_marks"] (spD K T.cm [false, false, false] false F_l_drawn)   := dok (G' := []) (k := 1) T.F_l_drawn sc_l_drawn rfl (by decide) fun cdv A outer s H E hr =>
  (ds_cons (ds_set 3 gok0 sc_l_drawn.nd rfl (by first | exact Or.inl rfl | exact Or.inr rfl) (de_callV (ok_l_row T) (takes_of rfl rfl rfl rfl) (hr.mono (by decide)) (by rfl) T.g_l_row T.F_l_row.kp T.b_l_row (dm_val (de_var 0 (pv 0) rfl) (dm_val (de_pub (de_lst (da_cons de_int (da_cons de_int (da_cons de_int (da_cons de_int (da_cons de_int (da_cons de_int (da_cons de_int (da_cons de_int (da_cons de_int (da_cons de_int (da_cons de_int (da_cons de_int (da_cons de_int da_nil))))))))))))))) dm_nil))))
  (ds_cons (ds_set 4 gok0 sc_l_drawn.nd rfl (by first | exact Or.inl rfl | exact Or.inr rfl) (de_strL (by decide +kernel)))
  (ds_cons (ds_for gok0 (passes_of rfl) rfl (di_rng1 T.n_range (by rfl) (da_cons (de_op or_add os_add (db_of (de_ix (db_var 3 (pv 3) (.inl (by rfl))) (db_of de_int) (fun _ _ => rfl))) (db_of de_int)) da_nil)) (dg_name 5 sc_l_drawn.nd rfl (by first | exact Or.inl rfl | exact Or.inr rfl))
  (ds_cons (ds_if gok0 (dt_cmp or_gt os_ord (db_var 5 (pv 5) (.inl (by rfl))) (db_of de_int) (nomark _))
  (ds_one (ds_set 4 gok0 sc_l_drawn.nd rfl (by first | exact Or.inl rfl | exact Or.inr rfl) (de_op or_add os_add (db_var 4 (pv 4) (.inl (by rfl))) (db_of (de_ix (db_own (de_lst (da_cons (de_strL (by decide +kernel)) (da_cons (de_strL (by decide +kernel)) (da_cons (de_strL (by decide +kernel)) da_nil))))) (db_of (de_ix (db_var 3 (pv 3) (.inl (by rfl))) (db_of (de_op or_mulX os_mulX (db_of de_int) (db_var 5 (pv 5) (.inl (by rfl))))) (fun _ _ => rfl))) (fun _ _ => rfl))))))
  ds_nil)
  (ds_cons (ds_set 4 gok0 sc_l_drawn.nd rfl (by first | exact Or.inl rfl | exact Or.inr rfl) (de_op or_add os_add (db_var 4 (pv 4) (.inl (by rfl))) (db_of (de_ix (db_var 1 (pv 1) (.inl (by rfl))) (db_of (de_ix (db_var 3 (pv 3) (.inl (by rfl))) (db_of (de_op or_add os_add (db_of (de_op or_mulX os_mulX (db_of de_int) (db_var 5 (pv 5) (.inl (by rfl))))) (db_of de_int))) (fun _ _ => rfl))) (fun _ _ => rfl)))))
  (ds_one (ds_if gok0 (dt_cmp or_gt os_ord (db_of (de_ix (db_var 3 (pv 3) (.inl (by rfl))) (db_of (de_op or_add os_add (db_of (de_op or_mulX os_mulX (db_of de_int) (db_var 5 (pv 5) (.inl (by rfl))))) (db_of de_int))) (fun _ _ => rfl))) (db_of de_int) (nomark _))
  (ds_one (ds_set 4 gok0 sc_l_drawn.nd rfl (by first | exact Or.inl rfl | exact Or.inr rfl) (de_op or_add os_add (db_of (de_op or_add os_add (db_var 4 (pv 4) (.inl (by rfl))) (db_of (de_strL (by decide +kernel))))) (db_of (de_ix (db_var 2 (pv 2) (.inl (by rfl))) (db_of (de_op op_sub os_sub (db_of (de_ix (db_var 3 (pv 3) (.inl (by rfl))) (db_of (de_op or_add os_add (db_of (de_op or_mulX os_mulX (db_of de_int) (db_var 5 (pv 5) (.inl (by rfl))))) (db_of de_int))) (fun _ _ => rfl))) (db_of de_int))) (fun _ _ => rfl))))))
  ds_nil)))))
  (ds_one (ds_ret gok0 rfl (de_var 4 (pv 4) rfl))))))
theorem ok_l_odd (T : Txt w K mg) : FnOk P w K mg base (L2.CX P w) 1 T.f_l_odd T.fd_l_odd ["_law_pick"] (spD K T.cm [false] false F_l_odd)   := dok (G' := []) (k := 0) T.F_l_odd sc_l_odd rfl (by decide) fun cdv A outer s H E hr =>
  (ds_cons (ds_set 1 gok0 sc_l_odd.nd rfl (by first | exact Or.inl rfl | exact Or.inr rfl) (de_pub (de_lst (da_cons (de_strL (by decide +kernel)) (da_cons (de_strL (by decide +kernel)) (da_cons (de_strL (by decide +kernel)) (da_cons (de_strL (by decide +kernel)) (da_cons (de_strL (by decide +kernel)) (da_cons (de_strL (by decide +kernel)) (da_cons (de_strL (by decide +kernel)) (da_cons (de_strL (by decide +kernel)) (da_cons (de_strL (by decide +kernel)) (da_cons (de_strL (by decide +kernel)) (da_cons (de_strL (by decide +kernel)) (da_cons (de_strL (by decide +kernel)) (da_cons (de_strL (by decide +kernel)) da_nil))))))))))))))))
  (ds_cons (ds_set 1 gok0 sc_l_odd.nd rfl (by first | exact Or.inl rfl | exact Or.inr rfl) (de_op or_add os_add (db_var 1 (pv 1) (.inl (by rfl))) (db_own (de_lst (da_cons (de_strL (by decide +kernel)) (da_cons (de_strL (by decide +kernel)) (da_cons (de_strL (by decide +kernel)) da_nil)))))))
  (ds_cons (ds_set 1 gok0 sc_l_odd.nd rfl (by first | exact Or.inl rfl | exact Or.inr rfl) (de_op or_add os_add (db_var 1 (pv 1) (.inl (by rfl))) (db_own (de_lst (da_cons (de_strL (by decide +kernel)) (da_cons (de_strL (by decide +kernel)) (da_cons (de_strL (by decide +kernel)) (da_cons (de_strL (by decide +kernel)) (da_cons (de_strL (by decide +kernel)) (da_cons (de_strL (by decide +kernel)) (da_cons (de_strL (by decide +kernel)) (da_cons (de_strL (by decide +kernel)) (da_cons (de_strL (by decide +kernel)) (da_cons (de_strL (by decide +kernel)) (da_cons (de_strL (by decide +kernel)) (da_cons (de_strL (by decide +kernel)) da_nil))))))))))))))))
  (ds_one (ds_ret gok0 rfl (de_ix (db_of (de_op or_add os_add (db_var 1 (pv 1) (.inl (by rfl))) (db_own (de_lst (da_cons (de_strL (by decide +kernel)) (da_cons (de_strL (by decide +kernel)) da_nil)))))) (db_of (de_op op_mod os_mod (db_of (de_type cr_int cs_int (by rfl) T.n_int (by decide +kernel) (dm_bor (db_var 0 (pv 0) (.inl (by rfl))) dm_nil))) (db_of de_int))) (fun _ _ => rfl)))))))
theorem ok_l_bent (T : Txt w K mg) : FnOk P w K mg base (L2.CX P w) 2 T.f_l_bent T.fd_l_bent ["_law_cell_here", "_law_text"] (spD K T.cm [false, false] false F_l_bent)   := dok (G' := []) (k := 1) T.F_l_bent sc_l_bent rfl (by decide) fun cdv A outer s H E hr =>
  (ds_cons (ds_set 2 gok0 sc_l_bent.nd rfl (by first | exact Or.inl rfl | exact Or.inr rfl) (de_callV (ok_l_row T) (takes_of rfl rfl rfl rfl) (hr.mono (by decide)) (by rfl) T.g_l_row T.F_l_row.kp T.b_l_row (dm_val (de_var 0 (pv 0) rfl) (dm_val (de_pub (de_lst (da_cons de_int (da_cons de_int (da_cons de_int (da_cons de_int da_nil)))))) dm_nil))))
  (ds_cons (ds_set 3 gok0 sc_l_bent.nd rfl (by first | exact Or.inl rfl | exact Or.inr rfl) (de_strL (by decide +kernel)))
  (ds_cons (ds_set 4 gok0 sc_l_bent.nd rfl (by first | exact Or.inl rfl | exact Or.inr rfl) (de_op op_mod os_mod (db_of (de_type cr_int cs_int (by rfl) T.n_int (by decide +kernel) (dm_bor (db_of (de_ix (db_var 2 (pv 2) (.inl (by rfl))) (db_of de_int) (fun _ _ => rfl))) dm_nil))) (db_of (de_op or_add os_add (db_of (de_bltn call_len cs_len (by rfl) T.n_len (by decide +kernel) (dm_bor (db_var 1 (pv 1) (.inl (by rfl))) dm_nil))) (db_of de_int)))))
  (ds_cons (ds_set 5 gok0 sc_l_bent.nd rfl (by first | exact Or.inl rfl | exact Or.inr rfl) (de_ix (db_var 3 (pv 3) (.inl (by rfl))) (db_of (de_ix (db_var 2 (pv 2) (.inl (by rfl))) (db_of de_int) (fun _ _ => rfl))) (fun _ _ => rfl)))
  (ds_cons (ds_if gok0 (dt_cmp or_gt os_ord (db_of (de_ix (db_var 2 (pv 2) (.inl (by rfl))) (db_of de_int) (fun _ _ => rfl))) (db_of de_int) (nomark _))
  (ds_one (ds_set 5 gok0 sc_l_bent.nd rfl (by first | exact Or.inl rfl | exact Or.inr rfl) (de_ix (db_of (de_strL (by decide +kernel))) (db_of (de_op op_mod os_mod (db_of (de_type cr_int cs_int (by rfl) T.n_int (by decide +kernel) (dm_bor (db_of (de_ix (db_var 2 (pv 2) (.inl (by rfl))) (db_of de_int) (fun _ _ => rfl))) dm_nil))) (db_of de_int))) (fun _ _ => rfl))))
  ds_nil)
  (ds_cons (ds_if gok0 (dt_cmp (or_eq hr.units) os_eq (db_of (de_ix (db_var 2 (pv 2) (.inl (by rfl))) (db_of de_int) (fun _ _ => rfl))) (db_of de_int) (nomark _))
  (ds_one (ds_ret gok0 rfl (de_op or_add os_add (db_of (de_sl (db_var 1 (pv 1) (.inl (by rfl))) dp_none (dp_some (de_var 4 (pv 4) rfl)))) (db_of (de_sl (db_var 1 (pv 1) (.inl (by rfl))) (dp_some (de_op or_add os_add (db_var 4 (pv 4) (.inl (by rfl))) (db_of de_int))) dp_none)))))
  ds_nil)
  (ds_cons (ds_if gok0 (dt_cmp (or_eq hr.units) os_eq (db_of (de_ix (db_var 2 (pv 2) (.inl (by rfl))) (db_of de_int) (fun _ _ => rfl))) (db_of de_int) (nomark _))
  (ds_one (ds_ret gok0 rfl (de_op or_add os_add (db_of (de_op or_add os_add (db_of (de_sl (db_var 1 (pv 1) (.inl (by rfl))) dp_none (dp_some (de_var 4 (pv 4) rfl)))) (db_var 5 (pv 5) (.inl (by rfl))))) (db_of (de_sl (db_var 1 (pv 1) (.inl (by rfl))) (dp_some (de_var 4 (pv 4) rfl)) dp_none)))))
  ds_nil)
  (ds_cons (ds_if gok0 (dt_cmp (or_eq hr.units) os_eq (db_of (de_ix (db_var 2 (pv 2) (.inl (by rfl))) (db_of de_int) (fun _ _ => rfl))) (db_of de_int) (nomark _))
  (ds_one (ds_ret gok0 rfl (de_op or_add os_add (db_of (de_op or_add os_add (db_of (de_sl (db_var 1 (pv 1) (.inl (by rfl))) dp_none (dp_some (de_var 4 (pv 4) rfl)))) (db_var 5 (pv 5) (.inl (by rfl))))) (db_of (de_sl (db_var 1 (pv 1) (.inl (by rfl))) (dp_some (de_op or_add os_add (db_var 4 (pv 4) (.inl (by rfl))) (db_of de_int))) dp_none)))))
  ds_nil)
  (ds_cons (ds_if gok0 (dt_cmp (or_eq hr.units) os_eq (db_of (de_ix (db_var 2 (pv 2) (.inl (by rfl))) (db_of de_int) (fun _ _ => rfl))) (db_of de_int) (nomark _))
  (ds_one (ds_ret gok0 rfl (de_op or_add os_add (db_of (de_op or_add os_add (db_of (de_sl (db_var 1 (pv 1) (.inl (by rfl))) dp_none (dp_some (de_var 4 (pv 4) rfl)))) (db_of (de_sl (db_var 1 (pv 1) (.inl (by rfl))) (dp_some (de_var 4 (pv 4) rfl)) (dp_some (de_op or_add os_add (db_var 4 (pv 4) (.inl (by rfl))) (db_of de_int))))))) (db_of (de_sl (db_var 1 (pv 1) (.inl (by rfl))) (dp_some (de_var 4 (pv 4) rfl)) dp_none)))))
  ds_nil)
  (ds_cons (ds_if gok0 (dt_cmp (or_eq hr.units) os_eq (db_of (de_ix (db_var 2 (pv 2) (.inl (by rfl))) (db_of de_int) (fun _ _ => rfl))) (db_of de_int) (nomark _))
  (ds_cons (ds_set 6 gok0 sc_l_bent.nd rfl (by first | exact Or.inl rfl | exact Or.inr rfl) (de_op or_add os_add (db_of (de_sl (db_var 1 (pv 1) (.inl (by rfl))) (dp_some (de_op or_add os_add (db_var 4 (pv 4) (.inl (by rfl))) (db_of de_int))) (dp_some (de_op or_add os_add (db_var 4 (pv 4) (.inl (by rfl))) (db_of de_int))))) (db_of (de_sl (db_var 1 (pv 1) (.inl (by rfl))) (dp_some (de_var 4 (pv 4) rfl)) (dp_some (de_op or_add os_add (db_var 4 (pv 4) (.inl (by rfl))) (db_of de_int)))))))
  (ds_one (ds_ret gok0 rfl (de_op or_add os_add (db_of (de_op or_add os_add (db_of (de_sl (db_var 1 (pv 1) (.inl (by rfl))) dp_none (dp_some (de_var 4 (pv 4) rfl)))) (db_var 6 (pv 6) (.inl (by rfl))))) (db_of (de_sl (db_var 1 (pv 1) (.inl (by rfl))) (dp_some (de_op or_add os_add (db_var 4 (pv 4) (.inl (by rfl))) (db_of de_int))) dp_none))))))
  ds_nil)
  (ds_one (ds_ret gok0 rfl (de_callV (ok_l_odd T) (takes_of rfl rfl rfl rfl) (hr.mono (by decide)) (by rfl) T.g_l_odd T.F_l_odd.kp T.b_l_odd (dm_val (de_ix (db_var 2 (pv 2) (.inl (by rfl))) (db_of de_int) (fun _ _ => rfl)) dm_nil))))))))))))))
theorem ok_l_name (T : Txt w K mg) : FnOk P w K mg base (L2.CX P w) 1 T.f_l_name T.fd_l_name ["_law_text"] (spD K T.cm [false] false F_l_name)   := dok (G' := []) (k := 0) T.F_l_name sc_l_name rfl (by decide) fun cdv A outer s H E hr =>
  (ds_cons (ds_for gok0 (passes_of rfl) rfl (di_str (de_var 0 (pv 0) rfl)) (dg_name 1 sc_l_name.nd rfl (by first | exact Or.inl rfl | exact Or.inr rfl))
  (ds_one (ds_if gok0 (dt_cmp (or_nin (hu65 hr)) os_nin (db_var 1 (pv 1) (.inl (by rfl))) (db_of (de_strL (by decide +kernel))) (by rfl))
  (ds_one (ds_ret gok0 rfl de_bl))
  ds_nil)))
  (ds_one (ds_ret gok0 rfl (de_and (de_cmp or_le os_ord (db_of de_int) (db_of (de_bltn call_len cs_len (by rfl) T.n_len (by decide +kernel) (dm_bor (db_var 0 (pv 0) (.inl (by rfl))) dm_nil))) (nomark _)) (de_one (de_cmp or_le os_ord (db_of (de_bltn call_len cs_len (by rfl) T.n_len (by decide +kernel) (dm_bor (db_var 0 (pv 0) (.inl (by rfl))) dm_nil))) (db_of de_int) (nomark _)))))))
theorem ok_l_read (T : Txt w K mg) : FnOk P w K mg base (L2.CX P w) 2 T.f_l_read T.fd_l_read ["_law_text"] (spD K T.cm [true] false F_l_read)   := dok (G' := []) (k := 1) T.F_l_read sc_l_read rfl (by decide) fun cdv A outer s H E hr =>
  (ds_cons (ds_setO 1 gok0 (show 1 < 6 by decide) sc_l_read.nd rfl (by first | exact Or.inl rfl | exact Or.inr rfl) (de_lst da_nil))
  (ds_cons (ds_set 2 gok0 sc_l_read.nd rfl (by first | exact Or.inl rfl | exact Or.inr rfl) de_bl)
  (ds_cons (ds_for gok0 (passes_of rfl) rfl (di_list (de_pub (de_m1 PySem.F.slot_str_split PySem.F.type_str_split mt_split ms_split (db_var 0 (pv 0) (.inr (.inr (by rfl)))) (db_of (de_strL (by decide +kernel)))))) (dg_name 3 sc_l_read.nd rfl (by first | exact Or.inl rfl | exact Or.inr rfl))
  (ds_cons (ds_if gok0 (PW.pt (dw_and (dt_tru (db_var 2 (pv 2) (.inl (by rfl))) (by intro _; rfl)) (dw_and1 (PW.pt (dw_or (dt_cmp (or_eq hr.units) os_eq (db_var 3 (pv 3) (.inl (by rfl))) (db_of (de_strL (by decide +kernel))) (nomark _)) (dw_or1 (dt_cmp (or_eq hr.units) os_eq (db_var 3 (pv 3) (.inl (by rfl))) (db_of (de_strL (by decide +kernel))) (nomark _))))))))
  (ds_cons (ds_set 2 gok0 sc_l_read.nd rfl (by first | exact Or.inl rfl | exact Or.inr rfl) de_bl)
  (ds_one ds_cont))
  ds_nil)
  (ds_cons (ds_set 4 gok0 sc_l_read.nd rfl (by first | exact Or.inl rfl | exact Or.inr rfl) (de_m1 PySem.F.slot_str_find PySem.F.type_str_find mt_find ms_find (db_var 3 (pv 3) (.inl (by rfl))) (db_of (de_strL (by decide +kernel)))))
  (ds_cons (ds_set 5 gok0 sc_l_read.nd rfl (by first | exact Or.inl rfl | exact Or.inr rfl) (de_var 3 (pv 3) rfl))
  (ds_cons (ds_if gok0 (dt_cmp or_ge os_ord (db_var 4 (pv 4) (.inl (by rfl))) (db_of de_int) (nomark _))
  (ds_cons (ds_set 5 gok0 sc_l_read.nd rfl (by first | exact Or.inl rfl | exact Or.inr rfl) (de_sl (db_var 3 (pv 3) (.inl (by rfl))) dp_none (dp_some (de_var 4 (pv 4) rfl))))
  (ds_one (ds_if gok0 (dt_not (dt_val (de_callV (ok_l_name T) (takes_of rfl rfl rfl rfl) (hr.mono (by decide)) (by rfl) T.g_l_name T.F_l_name.kp T.b_l_name (dm_val (de_sl (db_var 3 (pv 3) (.inl (by rfl))) (dp_some (de_op or_add os_add (db_var 4 (pv 4) (.inl (by rfl))) (db_of de_int))) dp_none) dm_nil))))
  (ds_one (ds_ret gok0 rfl de_non))
  ds_nil)))
  ds_nil)
  (ds_cons (ds_if gok0 (PW.pt (dw_and (dt_cmp (or_ne hr.units) os_ne (db_var 5 (pv 5) (.inl (by rfl))) (db_of (de_strL (by decide +kernel))) (nomark _)) (dw_and1 (dt_not (dt_val (de_callV (ok_l_name T) (takes_of rfl rfl rfl rfl) (hr.mono (by decide)) (by rfl) T.g_l_name T.F_l_name.kp T.b_l_name (dm_val (de_var 5 (pv 5) rfl) dm_nil)))))))
  (ds_one (ds_ret gok0 rfl de_non))
  ds_nil)
  (ds_cons (ds_app 1 gok0 rfl (pv 1) (de_tup (da_cons (de_cmp (or_ne hr.units) os_ne (db_var 5 (pv 5) (.inl (by rfl))) (db_of (de_strL (by decide +kernel))) (nomark _)) (da_cons (de_cmp or_ge os_ord (db_var 4 (pv 4) (.inl (by rfl))) (db_of de_int) (nomark _)) da_nil))))
  (ds_one (ds_set 2 gok0 sc_l_read.nd rfl (by first | exact Or.inl rfl | exact Or.inr rfl) de_bl)))))))))
  (ds_cons (ds_if gok0 (PW.pt (dw_or (dt_not (dt_tru (db_var 2 (pv 2) (.inl (by rfl))) (by intro _; rfl))) (dw_or1 (dt_cmp or_gt os_ord (db_of (de_bltn call_len cs_len (by rfl) T.n_len (by decide +kernel) (dm_bor (db_var 1 (pv 1) (.inr (.inl (by trivial)))) dm_nil))) (db_of de_int) (nomark _)))))
  (ds_one (ds_ret gok0 rfl de_non))
  ds_nil)
  (ds_pub 1 (ds_one (ds_ret gok0 rfl (de_var 1 (pv 1) rfl))) (.inl rfl))))))
theorem ok_l_refused (T : Txt w K mg) : FnOk P w K mg base (L2.CX P w) 6 T.f_l_refused T.fd_l_refused ["_law_text"] (spD K T.cm [false] false F_l_refused)   := dok (G' := []) (k := 5) T.F_l_refused sc_l_refused rfl (by decide) fun cdv A outer s H E hr =>
  (ds_cons (ds_try (isM := isM_BadPattern) (Gs := [.v, .v]) gok0 rfl rfl sc_l_refused.nd rfl rfl ⟨by rfl, by decide, .inl T.g_BadPattern⟩ (takes_of rfl rfl rfl rfl) (by decide) T.exm_BadPattern (fun W pn xe tk po => (ds_one (ds_expr gokT (de_pub (de_make T.mk_Pattern (ok_Pattern_init T) tk (hr.mono (by decide)) (by rfl) T.g_Pattern T.b_Pattern_init (dm_val (de_var 0 (pv 0) rfl) dm_nil))))))
  (fun a C dd oe pn hin hz hf => (ds_cons (ds_if gokC (PW.pt (dw_or (dt_val (de_isX (v := .ref T.a_BadValue) (cv := .ref T.a_BadValue) (isM := isM_BadValue) rfl (T.xc_of_BadPattern hin) hz hf (fun _ h => h) (fun n b h1 h2 => T.isi_BadValue n _ b h1 h2) T.n_isinstance (by rfl) (pv 1) (pe_glob (by rfl) T.g_BadValue rfl))) (dw_or1 (dt_val (de_isX (v := .ref T.a_BadLine) (cv := .ref T.a_BadLine) (isM := isM_BadLine) rfl (T.xc_of_BadPattern hin) hz hf (fun _ h => h) (fun n b h1 h2 => T.isi_BadLine n _ b h1 h2) T.n_isinstance (by rfl) (pv 1) (pe_glob (by rfl) T.g_BadLine rfl))))))
  (ds_one (ds_ret gokC rfl de_bl))
  ds_nil)
  (ds_one (ds_ret gokC rfl (de_and (de_isX (v := .ref T.a_LaidError) (cv := .ref T.a_LaidError) (isM := isM_LaidError) rfl (T.xc_of_BadPattern hin) hz hf (fun _ h => h) (fun n b h1 h2 => T.isi_LaidError n _ b h1 h2) T.n_isinstance (by rfl) (pv 1) (pe_glob (by rfl) T.g_LaidError rfl)) (de_and (de_isX (v := .ty "ValueError") (cv := .type "ValueError") (isM := isM_ValueError) rfl (T.xc_of_BadPattern hin) hz hf (fun _ h => h) (fun n b h1 h2 => T.isi_ValueError n _ b h1 h2) T.n_isinstance (by rfl) (pv 1) (pe_bltn (u := .type "ValueError") (by rfl) T.n_ValueError (by decide +kernel) rfl)) (de_and (de_isi "str" T.n_isinstance (by rfl) (by rfl) T.n_str (by decide +kernel) (db_of (de_xf (T.xf_of_BadPattern hin) (T.no_of_BadPattern_text hin) rfl hz hf (pv 1)))) (de_one (de_cmp (or_eq hr.units) os_eq (db_of (de_xf (T.xf_of_BadPattern hin) (T.no_of_BadPattern_text hin) rfl hz hf (pv 1))) (db_var 0 (pv 0) (.inl (by rfl))) (nomark _)))))))))) rfl rfl)
  (ds_one (ds_ret gok0 rfl de_bl)))
theorem ok_l_let (T : Txt w K mg) : FnOk P w K mg base (L2.CX P w) 6 T.f_l_let T.fd_l_let ["_law_text", "_law_tests", "_law_other"] (spD K T.cm [false, true, false] false F_l_let)   := dok (G' := []) (k := 5) T.F_l_let sc_l_let rfl (by decide) fun cdv A outer s H E hr =>
  (ds_cons (ds_set 3 gok0 sc_l_let.nd rfl (by first | exact Or.inl rfl | exact Or.inr rfl) (de_pub (de_make T.mk_Pattern (ok_Pattern_init T) (takes_of rfl rfl rfl rfl) (hr.mono (by decide)) (by rfl) T.g_Pattern T.b_Pattern_init (dm_val (de_var 0 (pv 0) rfl) dm_nil))))
  (ds_cons (ds_set 4 gok0 sc_l_let.nd rfl (by first | exact Or.inl rfl | exact Or.inr rfl) (de_pub (de_lst (da_cons (de_bltn (call_lenO T.m_Pattern___len__ (ok_Pattern_len T) (hr.mono (by decide)) T.b_Pattern_len) (cs_lenO T.cm_Pattern) (by rfl) T.n_len (by decide +kernel) (dm_bor (db_var 3 (pv 3) (.inl (by rfl))) dm_nil)) (da_cons (de_prop (rm := false) T.cm_Pattern T.cl_Pattern T.pr_Pattern_asked (ok_Pattern_asked T) (hr.mono (by decide)) T.b_Pattern_asked (db_var 3 (pv 3) (.inl (by rfl)))) (da_cons (de_prop (rm := false) T.cm_Pattern T.cl_Pattern T.pr_Pattern_named (ok_Pattern_named T) (hr.mono (by decide)) T.b_Pattern_named (db_var 3 (pv 3) (.inl (by rfl)))) da_nil))))))
  (ds_cons (ds_set 5 gok0 sc_l_let.nd rfl (by first | exact Or.inl rfl | exact Or.inr rfl) (de_pub (de_lst (da_cons (de_bltn call_len cs_len (by rfl) T.n_len (by decide +kernel) (dm_bor (db_var 1 (pv 1) (.inr (.inr (by rfl)))) dm_nil)) (da_cons (de_bltn call_len cs_len (by rfl) T.n_len (by decide +kernel) (dm_bor (db_own (de_lc (own := [("_law_one", 6)]) rfl sc_l_let.nd (di_bor 1 (pv 1) rfl) (blkOk_by (own := [("_law_one", 6)]) (N := ["_law_text", "_law_tests", "_law_other", "_law_pattern", "_law_counts", "_law_due", "_law_one", "_law_k", "_law_told", "_law_same"]) (sc := defScope s_l_let) (by decide +kernel)) (fun _ _ _ _ _ => (dg_name 6 sc_l_let.nd rfl (by first | exact Or.inl rfl | exact Or.inr rfl))) (fun _ _ _ _ _ => (dt_one (dt_tru (db_of (de_ix (db_var 6 (pv 6) (.inl (by rfl))) (db_of de_int) (fun _ _ => rfl))) (by intro _; rfl)))) (fun _ _ _ _ _ => (de_var 6 (pv 6) rfl)))) dm_nil)) (da_cons (de_bltn call_len cs_len (by rfl) T.n_len (by decide +kernel) (dm_bor (db_own (de_lc (own := [("_law_one", 6)]) rfl sc_l_let.nd (di_bor 1 (pv 1) rfl) (blkOk_by (own := [("_law_one", 6)]) (N := ["_law_text", "_law_tests", "_law_other", "_law_pattern", "_law_counts", "_law_due", "_law_one", "_law_k", "_law_told", "_law_same"]) (sc := defScope s_l_let) (by decide +kernel)) (fun _ _ _ _ _ => (dg_name 6 sc_l_let.nd rfl (by first | exact Or.inl rfl | exact Or.inr rfl))) (fun _ _ _ _ _ => (dt_one (dt_tru (db_of (de_ix (db_var 6 (pv 6) (.inl (by rfl))) (db_of de_int) (fun _ _ => rfl))) (by intro _; rfl)))) (fun _ _ _ _ _ => (de_var 6 (pv 6) rfl)))) dm_nil)) da_nil))))))
  (ds_cons (ds_for gok0 (passes_of rfl) rfl (di_rng1 T.n_range (by rfl) (da_cons de_int da_nil)) (dg_name 7 sc_l_let.nd rfl (by first | exact Or.inl rfl | exact Or.inr rfl))
  (ds_one (ds_if gok0 (PW.pt (dw_or (dt_not (dt_val (de_callV (ok_l_number T) (takes_of rfl rfl rfl rfl) (hr.mono (by decide)) (by rfl) T.g_l_number T.F_l_number.kp T.b_l_number (dm_val (de_ix (db_var 4 (pv 4) (.inl (by rfl))) (db_var 7 (pv 7) (.inl (by rfl))) (fun _ _ => rfl)) dm_nil)))) (dw_or1 (dt_cmp (or_ne hr.units) os_ne (db_of (de_ix (db_var 4 (pv 4) (.inl (by rfl))) (db_var 7 (pv 7) (.inl (by rfl))) (fun _ _ => rfl))) (db_of (de_ix (db_var 5 (pv 5) (.inl (by rfl))) (db_var 7 (pv 7) (.inl (by rfl))) (fun _ _ => rfl))) (nomark _)))))
  (ds_one (ds_ret gok0 rfl de_bl))
  ds_nil)))
  (ds_cons (ds_set 8 gok0 sc_l_let.nd rfl (by first | exact Or.inl rfl | exact Or.inr rfl) (de_type (call_strO T.m_Pattern___str__ (ok_Pattern_str T) (hr.mono (by decide)) T.b_Pattern_str) (cs_strO T.cm_Pattern) (by rfl) T.n_str (by decide +kernel) (dm_bor (db_var 3 (pv 3) (.inl (by rfl))) dm_nil)))
  (ds_cons (ds_if gok0 (PW.pt (dw_or (dt_not (dt_val (de_isi "str" T.n_isinstance (by rfl) (by rfl) T.n_str (by decide +kernel) (db_var 8 (pv 8) (.inl (by rfl)))))) (dw_or1 (dt_cmp (or_ne hr.units) os_ne (db_var 8 (pv 8) (.inl (by rfl))) (db_var 0 (pv 0) (.inl (by rfl))) (nomark _)))))
  (ds_one (ds_ret gok0 rfl de_bl))
  ds_nil)
  (ds_cons (ds_if gok0 (PW.pt (dw_or (dt_cmp op_notBl os_notB (db_of (de_cmp (op_cmpO (op := .Eq) (fun _ _ => rfl) T.nf_Pattern T.m_Pattern___eq__ (ok_Pattern_eq T) (hr.mono (by decide)) T.b_Pattern_eq) (os_binO (rm := false) T.cm_Pattern) (db_var 3 (pv 3) (.inl (by rfl))) (db_own (de_make T.mk_Pattern (ok_Pattern_init T) (takes_of rfl rfl rfl rfl) (hr.mono (by decide)) (by rfl) T.g_Pattern T.b_Pattern_init (dm_val (de_var 0 (pv 0) rfl) dm_nil))) (nomark _))) (db_of de_bl) (nomark _)) (dw_or1 (dt_cmp op_notBl os_notB (db_of (de_cmp (op_cmpV (op := .Eq) (fun _ _ => rfl) T.m_Pattern___eq__ (ok_Pattern_eq T) (hr.mono (by decide)) T.b_Pattern_eq) (os_cmpV (rm := false) T.cm_Pattern T.ic_Pattern T.nf_Pattern T.nt_Pattern) (db_var 3 (pv 3) (.inl (by rfl))) (db_var 0 (pv 0) (.inl (by rfl))) (nomark _))) (db_of de_bl) (nomark _)))))
  (ds_one (ds_ret gok0 rfl de_bl))
  ds_nil)
  (ds_cons (ds_for gok0 (passes_of rfl) rfl (di_list (de_pub (de_lst (da_cons (de_cmp (op_cmpO (op := .Eq) (fun _ _ => rfl) T.nf_Pattern T.m_Pattern___eq__ (ok_Pattern_eq T) (hr.mono (by decide)) T.b_Pattern_eq) (os_binO (rm := false) T.cm_Pattern) (db_var 3 (pv 3) (.inl (by rfl))) (db_own (de_make T.mk_Pattern (ok_Pattern_init T) (takes_of rfl rfl rfl rfl) (hr.mono (by decide)) (by rfl) T.g_Pattern T.b_Pattern_init (dm_val (de_var 2 (pv 2) rfl) dm_nil))) (nomark _)) (da_cons (de_cmp (op_cmpO (op := .Eq) (fun _ _ => rfl) T.nf_Pattern T.m_Pattern___eq__ (ok_Pattern_eq T) (hr.mono (by decide)) T.b_Pattern_eq) (os_binO (rm := false) T.cm_Pattern) (db_own (de_make T.mk_Pattern (ok_Pattern_init T) (takes_of rfl rfl rfl rfl) (hr.mono (by decide)) (by rfl) T.g_Pattern T.b_Pattern_init (dm_val (de_var 2 (pv 2) rfl) dm_nil))) (db_var 3 (pv 3) (.inl (by rfl))) (nomark _)) da_nil))))) (dg_name 9 sc_l_let.nd rfl (by first | exact Or.inl rfl | exact Or.inr rfl))
  (ds_one (ds_if gok0 (PW.pt (dw_or (dt_not (dt_val (de_isi "bool" T.n_isinstance (by rfl) (by rfl) T.n_bool (by decide +kernel) (db_var 9 (pv 9) (.inl (by rfl)))))) (dw_or1 (dt_cmp (or_ne hr.units) os_ne (db_var 9 (pv 9) (.inl (by rfl))) (db_of (de_cmp (or_eq hr.units) os_eq (db_var 0 (pv 0) (.inl (by rfl))) (db_var 2 (pv 2) (.inl (by rfl))) (nomark _))) (nomark _)))))
  (ds_one (ds_ret gok0 rfl de_bl))
  ds_nil)))
  (ds_one (ds_ret gok0 rfl de_bl))))))))))
theorem ok_law (T : Txt w K mg) : FnOk P w K mg base (L2.CX P w) 7 T.f_law T.fd_law ["_law_script"] (spD K T.cm [false] false F_law)   := dok (G' := []) (k := 6) T.F_law sc_law rfl (by decide) fun cdv A outer s H E hr =>
  (ds_cons (ds_set 1 gok0 sc_law.nd rfl (by first | exact Or.inl rfl | exact Or.inr rfl) (de_callV (ok_l_names T) (takes_of rfl rfl rfl rfl) (hr.mono (by decide)) (by rfl) T.g_l_names T.F_l_names.kp T.b_l_names (dm_val (de_callV (ok_l_cell T) (takes_of rfl rfl rfl rfl) (hr.mono (by decide)) (by rfl) T.g_l_cell T.F_l_cell.kp T.b_l_cell (dm_val (de_var 0 (pv 0) rfl) (dm_val de_int dm_nil))) (dm_val de_int dm_nil))))
  (ds_cons (ds_set 2 gok0 sc_law.nd rfl (by first | exact Or.inl rfl | exact Or.inr rfl) (de_callV (ok_l_drawn T) (takes_of rfl rfl rfl rfl) (hr.mono (by decide)) (by rfl) T.g_l_drawn T.F_l_drawn.kp T.b_l_drawn (dm_val (de_callV (ok_l_cell T) (takes_of rfl rfl rfl rfl) (hr.mono (by decide)) (by rfl) T.g_l_cell T.F_l_cell.kp T.b_l_cell (dm_val (de_var 0 (pv 0) rfl) (dm_val de_int dm_nil))) (dm_val (de_op or_add os_add (db_of (de_sl (db_var 1 (pv 1) (.inl (by rfl))) dp_none (dp_some de_int))) (db_own (de_lst (da_cons (de_strL (by decide +kernel)) da_nil)))) (dm_val (de_sl (db_var 1 (pv 1) (.inl (by rfl))) (dp_some de_int) dp_none) dm_nil)))))
  (ds_cons (ds_set 3 gok0 sc_law.nd rfl (by first | exact Or.inl rfl | exact Or.inr rfl) (de_callV (ok_l_bent T) (takes_of rfl rfl rfl rfl) (hr.mono (by decide)) (by rfl) T.g_l_bent T.F_l_bent.kp T.b_l_bent (dm_val (de_callV (ok_l_cell T) (takes_of rfl rfl rfl rfl) (hr.mono (by decide)) (by rfl) T.g_l_cell T.F_l_cell.kp T.b_l_cell (dm_val (de_var 0 (pv 0) rfl) (dm_val de_int dm_nil))) (dm_val (de_var 2 (pv 2) rfl) dm_nil))))
  (ds_cons (ds_set 4 gok0 sc_law.nd rfl (by first | exact Or.inl rfl | exact Or.inr rfl) (de_callV (ok_l_bent T) (takes_of rfl rfl rfl rfl) (hr.mono (by decide)) (by rfl) T.g_l_bent T.F_l_bent.kp T.b_l_bent (dm_val (de_callV (ok_l_cell T) (takes_of rfl rfl rfl rfl) (hr.mono (by decide)) (by rfl) T.g_l_cell T.F_l_cell.kp T.b_l_cell (dm_val (de_var 0 (pv 0) rfl) (dm_val de_int dm_nil))) (dm_val (de_var 3 (pv 3) rfl) dm_nil))))
  (ds_cons (ds_for gok0 (passes_of rfl) rfl (di_list (de_pub (de_lst (da_cons (de_var 2 (pv 2) rfl) (da_cons (de_var 3 (pv 3) rfl) (da_cons (de_var 4 (pv 4) rfl) (da_cons (de_callV (ok_l_odd T) (takes_of rfl rfl rfl rfl) (hr.mono (by decide)) (by rfl) T.g_l_odd T.F_l_odd.kp T.b_l_odd (dm_val (de_callV (ok_l_cell T) (takes_of rfl rfl rfl rfl) (hr.mono (by decide)) (by rfl) T.g_l_cell T.F_l_cell.kp T.b_l_cell (dm_val (de_var 0 (pv 0) rfl) (dm_val de_int dm_nil))) dm_nil)) (da_cons (de_var 2 (pv 2) rfl) da_nil)))))))) (dg_name 5 sc_law.nd rfl (by first | exact Or.inl rfl | exact Or.inr rfl))
  (ds_cons (ds_set 6 gok0 sc_law.nd rfl (by first | exact Or.inl rfl | exact Or.inr rfl) (de_callV (ok_l_read T) (takes_of rfl rfl rfl rfl) (hr.mono (by decide)) (by rfl) T.g_l_read T.F_l_read.kp T.b_l_read (dm_bor (db_var 5 (pv 5) (.inl (by rfl))) dm_nil)))
  (ds_one (ds_if gok0 (dt_cmp op_isN os_is (db_var 6 (pv 6) (.inl (by rfl))) (db_of de_non) (nomark _))
  (ds_one (ds_if gok0 (dt_not (dt_val (de_callV (ok_l_refused T) (takes_of rfl rfl rfl rfl) (hr.mono (by decide)) (by rfl) T.g_l_refused T.F_l_refused.kp T.b_l_refused (dm_val (de_var 5 (pv 5) rfl) dm_nil))))
  (ds_one (ds_ret gok0 rfl de_bl))
  ds_nil))
  (ds_one (ds_if gok0 (dt_not (dt_val (de_callV (ok_l_let T) (takes_of rfl rfl rfl rfl) (hr.mono (by decide)) (by rfl) T.g_l_let T.F_l_let.kp T.b_l_let (dm_val (de_var 5 (pv 5) rfl) (dm_bor (db_var 6 (pv 6) (.inl (by rfl))) (dm_val (de_var 2 (pv 2) rfl) dm_nil))))))
  (ds_one (ds_ret gok0 rfl de_bl))
  ds_nil))))))
  (ds_one (ds_ret gok0 rfl de_bl)))))))
end
end Lk
end S_P_walk
section S_P_end
set_option Elab.async false
set_option linter.all false
set_option maxRecDepth 100000
set_option maxHeartbeats 4000000
namespace Lk
open PySem L2 Dx PySem.Spec PyProof.Rows
theorem txt_mk {w : World} {K : PySem.W.Frag} {h : Heap} {mg : Str → Option Value} (X : K.In h) (G : h.Ns mainGlobals mg)
    {f0 : Addr} {oc0 kV0 dc0 pm0 cd0 ct0 : Value} {od0 an0 : Option Addr} {sl0 : Array (Option Value)}
    {f1 : Addr} {oc1 kV1 dc1 pm1 cd1 ct1 : Value} {od1 an1 : Option Addr} {sl1 : Array (Option Value)}
    {f2 : Addr} {oc2 kV2 dc2 pm2 cd2 ct2 : Value} {od2 an2 : Option Addr} {sl2 : Array (Option Value)}
    {f3 : Addr} {oc3 kV3 dc3 pm3 cd3 ct3 : Value} {od3 an3 : Option Addr} {sl3 : Array (Option Value)}
    {f4 : Addr} {oc4 kV4 dc4 pm4 cd4 ct4 : Value} {od4 an4 : Option Addr} {sl4 : Array (Option Value)}
    {f5 : Addr} {oc5 kV5 dc5 pm5 cd5 ct5 : Value} {od5 an5 : Option Addr} {sl5 : Array (Option Value)}
    {f6 : Addr} {oc6 kV6 dc6 pm6 cd6 ct6 : Value} {od6 an6 : Option Addr} {sl6 : Array (Option Value)}
    {f7 : Addr} {oc7 kV7 dc7 pm7 cd7 ct7 : Value} {od7 an7 : Option Addr} {sl7 : Array (Option Value)}
    {f8 : Addr} {oc8 kV8 dc8 pm8 cd8 ct8 : Value} {od8 an8 : Option Addr} {sl8 : Array (Option Value)}
    {f9 : Addr} {oc9 kV9 dc9 pm9 cd9 ct9 : Value} {od9 an9 : Option Addr} {sl9 : Array (Option Value)}
    {f10 : Addr} {oc10 kV10 dc10 pm10 cd10 ct10 : Value} {od10 an10 : Option Addr} {sl10 : Array (Option Value)}
    {f11 : Addr} {oc11 kV11 dc11 pm11 cd11 ct11 : Value} {od11 an11 : Option Addr} {sl11 : Array (Option Value)}
    {f12 : Addr} {oc12 kV12 dc12 pm12 cd12 ct12 : Value} {od12 an12 : Option Addr} {sl12 : Array (Option Value)}
    {f13 : Addr} {oc13 kV13 dc13 pm13 cd13 ct13 : Value} {od13 an13 : Option Addr} {sl13 : Array (Option Value)}
    {f14 : Addr} {oc14 kV14 dc14 pm14 cd14 ct14 : Value} {od14 an14 : Option Addr} {sl14 : Array (Option Value)}
    {f15 : Addr} {oc15 kV15 dc15 pm15 cd15 ct15 : Value} {od15 an15 : Option Addr} {sl15 : Array (Option Value)}
    {f16 : Addr} {oc16 kV16 dc16 pm16 cd16 ct16 : Value} {od16 an16 : Option Addr} {sl16 : Array (Option Value)}
    {f17 : Addr} {oc17 kV17 dc17 pm17 cd17 ct17 : Value} {od17 an17 : Option Addr} {sl17 : Array (Option Value)}
    {f18 : Addr} {oc18 kV18 dc18 pm18 cd18 ct18 : Value} {od18 an18 : Option Addr} {sl18 : Array (Option Value)}
    {f19 : Addr} {oc19 kV19 dc19 pm19 cd19 ct19 : Value} {od19 an19 : Option Addr} {sl19 : Array (Option Value)}
    {f20 : Addr} {oc20 kV20 dc20 pm20 cd20 ct20 : Value} {od20 an20 : Option Addr} {sl20 : Array (Option Value)}
    {t_LETTERS : Tok}
    {t_MOST_TESTS : Tok}
    {kA_LINKS_0 : Addr} {kn_LINKS_0 : Nat}
    {kh_LINKS_0 : Int} {kt_LINKS_0 : Tok}
    {kv_LINKS_0 : Tok}
    {kh_LINKS_1 : Int} {kt_LINKS_1 : Tok}
    {kv_LINKS_1 : Tok}
    {A_BadLine : Addr}
    {A_BadPattern : Addr}
    {A_BadValue : Addr}
    {A_LaidError : Addr}
    {nm_BadPattern qq_BadPattern : Str} {N_BadPattern fI_BadPattern : Addr} {bs_BadPattern bm_BadPattern : List Value} {sn_BadPattern : List Str} {sb_BadPattern : List Value} {ab_BadPattern : Bool} {co_BadPattern : Option Bool} {dd_BadPattern od_BadPattern an_BadPattern : Option Addr} {m0_BadPattern m1_BadPattern m2_BadPattern m3_BadPattern m5_BadPattern : Option Value} {oc_BadPattern kV_BadPattern dc_BadPattern pm_BadPattern cd_BadPattern ct_BadPattern : Value} {sl_BadPattern : Array (Option Value)}
    {A_Pattern : Addr}
    {pp_Pattern_asked : Addr} {pq_Pattern_asked : List Value}
    {pp_Pattern_named : Addr} {pq_Pattern_named : List Value}
    (a0 : PySem.W.nsIn K mainGlobals "is_name" = some (some (.ref f0)))
    (l0 : K.lookup f0 = some ⟨oc0, od0, .func (PySem.W.fnOf "is_name" "is_name" (defArgs s_is_name) (defBody s_is_name) (defScope s_is_name) .none kV0 dc0 pm0 an0 cd0 ct0), sl0⟩) (c0 : PySem.W.codeIn K cd0 "is_name" = true) (k0 : PySem.W.keepIn K (.ref f0) = true)
    (a1 : PySem.W.nsIn K mainGlobals "read_test" = some (some (.ref f1)))
    (l1 : K.lookup f1 = some ⟨oc1, od1, .func (PySem.W.fnOf "read_test" "read_test" (defArgs s_read_test) (defBody s_read_test) (defScope s_read_test) .none kV1 dc1 pm1 an1 cd1 ct1), sl1⟩) (c1 : PySem.W.codeIn K cd1 "read_test" = true) (k1 : PySem.W.keepIn K (.ref f1) = true)
    (a2 : PySem.W.nsIn K mainGlobals "read_pattern" = some (some (.ref f2)))
    (l2 : K.lookup f2 = some ⟨oc2, od2, .func (PySem.W.fnOf "read_pattern" "read_pattern" (defArgs s_read_pattern) (defBody s_read_pattern) (defScope s_read_pattern) .none kV2 dc2 pm2 an2 cd2 ct2), sl2⟩) (c2 : PySem.W.codeIn K cd2 "read_pattern" = true) (k2 : PySem.W.keepIn K (.ref f2) = true)
    (l3 : K.lookup f3 = some ⟨oc3, od3, .func (PySem.W.fnOf "__init__" "Pattern.__init__" (defArgs s_Pattern_init) (defBody s_Pattern_init) (defScope s_Pattern_init) .none kV3 dc3 pm3 an3 cd3 ct3), sl3⟩) (c3 : PySem.W.codeIn K cd3 "Pattern.__init__" = true) (k3 : PySem.W.keepIn K (.ref f3) = true)
    (l4 : K.lookup f4 = some ⟨oc4, od4, .func (PySem.W.fnOf "__str__" "Pattern.__str__" (defArgs s_Pattern_str) (defBody s_Pattern_str) (defScope s_Pattern_str) .none kV4 dc4 pm4 an4 cd4 ct4), sl4⟩) (c4 : PySem.W.codeIn K cd4 "Pattern.__str__" = true) (k4 : PySem.W.keepIn K (.ref f4) = true)
    (l5 : K.lookup f5 = some ⟨oc5, od5, .func (PySem.W.fnOf "__len__" "Pattern.__len__" (defArgs s_Pattern_len) (defBody s_Pattern_len) (defScope s_Pattern_len) .none kV5 dc5 pm5 an5 cd5 ct5), sl5⟩) (c5 : PySem.W.codeIn K cd5 "Pattern.__len__" = true) (k5 : PySem.W.keepIn K (.ref f5) = true)
    (l6 : K.lookup f6 = some ⟨oc6, od6, .func (PySem.W.fnOf "__eq__" "Pattern.__eq__" (defArgs s_Pattern_eq) (defBody s_Pattern_eq) (defScope s_Pattern_eq) .none kV6 dc6 pm6 an6 cd6 ct6), sl6⟩) (c6 : PySem.W.codeIn K cd6 "Pattern.__eq__" = true) (k6 : PySem.W.keepIn K (.ref f6) = true)
    (l7 : K.lookup f7 = some ⟨oc7, od7, .func (PySem.W.fnOf "asked" "Pattern.asked" (defArgs s_Pattern_asked) (defBody s_Pattern_asked) (defScope s_Pattern_asked) .none kV7 dc7 pm7 an7 cd7 ct7), sl7⟩) (c7 : PySem.W.codeIn K cd7 "Pattern.asked" = true) (k7 : PySem.W.keepIn K (.ref f7) = true)
    (l8 : K.lookup f8 = some ⟨oc8, od8, .func (PySem.W.fnOf "named" "Pattern.named" (defArgs s_Pattern_named) (defBody s_Pattern_named) (defScope s_Pattern_named) .none kV8 dc8 pm8 an8 cd8 ct8), sl8⟩) (c8 : PySem.W.codeIn K cd8 "Pattern.named" = true) (k8 : PySem.W.keepIn K (.ref f8) = true)
    (a9 : PySem.W.nsIn K mainGlobals "_law_cell" = some (some (.ref f9)))
    (l9 : K.lookup f9 = some ⟨oc9, od9, .func (PySem.W.fnOf "_law_cell" "_law_cell" (defArgs s_l_cell) (defBody s_l_cell) (defScope s_l_cell) .none kV9 dc9 pm9 an9 cd9 ct9), sl9⟩) (c9 : PySem.W.codeIn K cd9 "_law_cell" = true) (k9 : PySem.W.keepIn K (.ref f9) = true)
    (a10 : PySem.W.nsIn K mainGlobals "_law_row" = some (some (.ref f10)))
    (l10 : K.lookup f10 = some ⟨oc10, od10, .func (PySem.W.fnOf "_law_row" "_law_row" (defArgs s_l_row) (defBody s_l_row) (defScope s_l_row) .none kV10 dc10 pm10 an10 cd10 ct10), sl10⟩) (c10 : PySem.W.codeIn K cd10 "_law_row" = true) (k10 : PySem.W.keepIn K (.ref f10) = true)
    (a11 : PySem.W.nsIn K mainGlobals "_law_names" = some (some (.ref f11)))
    (l11 : K.lookup f11 = some ⟨oc11, od11, .func (PySem.W.fnOf "_law_names" "_law_names" (defArgs s_l_names) (defBody s_l_names) (defScope s_l_names) .none kV11 dc11 pm11 an11 cd11 ct11), sl11⟩) (c11 : PySem.W.codeIn K cd11 "_law_names" = true) (k11 : PySem.W.keepIn K (.ref f11) = true)
    (a12 : PySem.W.nsIn K mainGlobals "_law_number" = some (some (.ref f12)))
    (l12 : K.lookup f12 = some ⟨oc12, od12, .func (PySem.W.fnOf "_law_number" "_law_number" (defArgs s_l_number) (defBody s_l_number) (defScope s_l_number) .none kV12 dc12 pm12 an12 cd12 ct12), sl12⟩) (c12 : PySem.W.codeIn K cd12 "_law_number" = true) (k12 : PySem.W.keepIn K (.ref f12) = true)
    (a13 : PySem.W.nsIn K mainGlobals "_law_drawn" = some (some (.ref f13)))
    (l13 : K.lookup f13 = some ⟨oc13, od13, .func (PySem.W.fnOf "_law_drawn" "_law_drawn" (defArgs s_l_drawn) (defBody s_l_drawn) (defScope s_l_drawn) .none kV13 dc13 pm13 an13 cd13 ct13), sl13⟩) (c13 : PySem.W.codeIn K cd13 "_law_drawn" = true) (k13 : PySem.W.keepIn K (.ref f13) = true)
    (a14 : PySem.W.nsIn K mainGlobals "_law_odd" = some (some (.ref f14)))
    (l14 : K.lookup f14 = some ⟨oc14, od14, .func (PySem.W.fnOf "_law_odd" "_law_odd" (defArgs s_l_odd) (defBody s_l_odd) (defScope s_l_odd) .none kV14 dc14 pm14 an14 cd14 ct14), sl14⟩) (c14 : PySem.W.codeIn K cd14 "_law_odd" = true) (k14 : PySem.W.keepIn K (.ref f14) = true)
    (a15 : PySem.W.nsIn K mainGlobals "_law_bent" = some (some (.ref f15)))
    (l15 : K.lookup f15 = some ⟨oc15, od15, .func (PySem.W.fnOf "_law_bent" "_law_bent" (defArgs s_l_bent) (defBody s_l_bent) (defScope s_l_bent) .none kV15 dc15 pm15 an15 cd15 ct15), sl15⟩) (c15 : PySem.W.codeIn K cd15 "_law_bent" = true) (k15 : PySem.W.keepIn K (.ref f15) = true)
    (a16 : PySem.W.nsIn K mainGlobals "_law_name" = some (some (.ref f16)))
    (l16 : K.lookup f16 = some ⟨oc16, od16, .func (PySem.W.fnOf "_law_name" "_law_name" (defArgs s_l_name) (defBody s_l_name) (defScope s_l_name) .none kV16 dc16 pm16 an16 cd16 ct16), sl16⟩) (c16 : PySem.W.codeIn K cd16 "_law_name" = true) (k16 : PySem.W.keepIn K (.ref f16) = true)
    (a17 : PySem.W.nsIn K mainGlobals "_law_read" = some (some (.ref f17)))
    (l17 : K.lookup f17 = some ⟨oc17, od17, .func (PySem.W.fnOf "_law_read" "_law_read" (defArgs s_l_read) (defBody s_l_read) (defScope s_l_read) .none kV17 dc17 pm17 an17 cd17 ct17), sl17⟩) (c17 : PySem.W.codeIn K cd17 "_law_read" = true) (k17 : PySem.W.keepIn K (.ref f17) = true)
    (a18 : PySem.W.nsIn K mainGlobals "_law_refused" = some (some (.ref f18)))
    (l18 : K.lookup f18 = some ⟨oc18, od18, .func (PySem.W.fnOf "_law_refused" "_law_refused" (defArgs s_l_refused) (defBody s_l_refused) (defScope s_l_refused) .none kV18 dc18 pm18 an18 cd18 ct18), sl18⟩) (c18 : PySem.W.codeIn K cd18 "_law_refused" = true) (k18 : PySem.W.keepIn K (.ref f18) = true)
    (a19 : PySem.W.nsIn K mainGlobals "_law_let" = some (some (.ref f19)))
    (l19 : K.lookup f19 = some ⟨oc19, od19, .func (PySem.W.fnOf "_law_let" "_law_let" (defArgs s_l_let) (defBody s_l_let) (defScope s_l_let) .none kV19 dc19 pm19 an19 cd19 ct19), sl19⟩) (c19 : PySem.W.codeIn K cd19 "_law_let" = true) (k19 : PySem.W.keepIn K (.ref f19) = true)
    (a20 : PySem.W.nsIn K mainGlobals "law" = some (some (.ref f20)))
    (l20 : K.lookup f20 = some ⟨oc20, od20, .func (PySem.W.fnOf "law" "law" (defArgs s_law) (defBody s_law) (defScope s_law) .none kV20 dc20 pm20 an20 cd20 ct20), sl20⟩) (c20 : PySem.W.codeIn K cd20 "law" = true) (k20 : PySem.W.keepIn K (.ref f20) = true)
    (z_ValueError : PySem.W.nsIn K mainGlobals "ValueError" = some none)
    (z_bool : PySem.W.nsIn K mainGlobals "bool" = some none)
    (z_int : PySem.W.nsIn K mainGlobals "int" = some none)
    (z_isinstance : PySem.W.nsIn K mainGlobals "isinstance" = some none)
    (z_len : PySem.W.nsIn K mainGlobals "len" = some none)
    (z_range : PySem.W.nsIn K mainGlobals "range" = some none)
    (z_str : PySem.W.nsIn K mainGlobals "str" = some none)
    (z_tuple : PySem.W.nsIn K mainGlobals "tuple" = some none)
    (y_LETTERS : PySem.W.nsIn K mainGlobals "LETTERS" = some (some (.str "abcdefghijklmnopqrstuvwxyz" t_LETTERS)))
    (y_MOST_TESTS : PySem.W.nsIn K mainGlobals "MOST_TESTS" = some (some (.int 4 t_MOST_TESTS)))
    (y_LINKS : PySem.W.nsIn K mainGlobals "LINKS" = some (some (.ref kA_LINKS_0)))
    (kl_LINKS_0 : K.lookup kA_LINKS_0 = some ⟨.type "dict", none, .dict #[⟨kh_LINKS_0, .str ">" kt_LINKS_0, .str "parent" kv_LINKS_0⟩, ⟨kh_LINKS_1, .str "+" kt_LINKS_1, .str "elder" kv_LINKS_1⟩] kn_LINKS_0, #[]⟩)
    (kk_LINKS : PySem.W.KeysLit w.params [⟨kh_LINKS_0, .str ">" kt_LINKS_0, .str "parent" kv_LINKS_0⟩, ⟨kh_LINKS_1, .str "+" kt_LINKS_1, .str "elder" kv_LINKS_1⟩])
    (km_LINKS : (kA_LINKS_0 == sysModules) = false)
    (x_BadLine : PySem.W.nsIn K mainGlobals "BadLine" = some (some (.ref A_BadLine)))
    (x_BadPattern : PySem.W.nsIn K mainGlobals "BadPattern" = some (some (.ref A_BadPattern)))
    (x_BadValue : PySem.W.nsIn K mainGlobals "BadValue" = some (some (.ref A_BadValue)))
    (x_LaidError : PySem.W.nsIn K mainGlobals "LaidError" = some (some (.ref A_LaidError)))
    (X1_BadPattern : K.lookup A_BadPattern = some (excClassObj nm_BadPattern qq_BadPattern A_BadPattern N_BadPattern bs_BadPattern bm_BadPattern true sn_BadPattern sb_BadPattern ab_BadPattern co_BadPattern dd_BadPattern m0_BadPattern m1_BadPattern m2_BadPattern m3_BadPattern m5_BadPattern "ValueError.__new__")) (X2_BadPattern : PySem.HandSPX.refsVE bm_BadPattern = true)
    (X3_BadPattern : PySem.W.findIn K (.ref A_BadPattern) "__setattr__" = some (some (.builtin "object.__setattr__"))) (X4_BadPattern : PySem.W.subIn K (.ref A_BadPattern) (.type "BaseException") = some true) (X5_BadPattern : PySem.W.typeIn K (.ref A_BadPattern) = some (.type "type")) (X6_BadPattern : PySem.W.keepIn K (.ref A_BadPattern) = true)
    (X7_BadPattern : PySem.W.findIn K (.ref A_BadPattern) "__init__" = some (some (.ref fI_BadPattern))) (X8_BadPattern : PySem.W.typeIn K (.ref fI_BadPattern) = some (.type "function")) (X9_BadPattern : K.lookup fI_BadPattern = some ⟨oc_BadPattern, od_BadPattern, .func (PySem.W.fnOf "__init__" "BadPattern.__init__" (defArgs s_BadPattern) (defBody s_BadPattern) (defScope s_BadPattern) .none kV_BadPattern dc_BadPattern pm_BadPattern an_BadPattern cd_BadPattern ct_BadPattern), sl_BadPattern⟩) (Xa_BadPattern : PySem.W.codeIn K cd_BadPattern "BadPattern.__init__" = true) (Xb_BadPattern : PySem.W.keepIn K (.ref fI_BadPattern) = true)
    (Y0_BadPattern : PySem.W.findIn K (.ref A_BadPattern) "text" = some none)
    (Xc_BadPattern : PySem.W.findIn K (.ref A_BadPattern) "__getattribute__" = some (some (.builtin "BaseException.__getattribute__"))) (Xd_BadPattern : PySem.W.findIn K (.ref A_BadPattern) "__getattr__" = some none) (Xe_BadPattern : PySem.W.hasDictIn K A_BadPattern = true)
    (Xf_BadPattern : PySem.W.findIn K (.ref A_BadPattern) "__class__" = some (some (.builtin "object.__class__"))) (Xg_BadPattern : PySem.W.specialIn K (.builtin "object.__class__") "__get__" = some (some (.builtin "getset_descriptor.__get__"))) (Xh_BadPattern : PySem.W.takesIn K (.builtin "object.__class__") = some true) (Xi_BadPattern : PySem.W.mroIn K A_BadPattern (.type "object") = some true)
    (E_BadPattern_BadPattern : PySem.W.exmOne K (.ref A_BadPattern) (.ref A_BadPattern) = some true)
    (Q_BadPattern_BadLine : PySem.W.kitOne K (.ref A_BadPattern) (.ref A_BadLine) = some false)
    (Q_BadPattern_BadValue : PySem.W.kitOne K (.ref A_BadPattern) (.ref A_BadValue) = some false)
    (Q_BadPattern_LaidError : PySem.W.kitOne K (.ref A_BadPattern) (.ref A_LaidError) = some true)
    (Q_BadPattern_ValueError : PySem.W.kitOne K (.ref A_BadPattern) (.type "ValueError") = some true)
    (x_Pattern : PySem.W.nsIn K mainGlobals "Pattern" = some (some (.ref A_Pattern))) (P1_Pattern : PySem.W.plainGet K A_Pattern Str.empty = true) (P2_Pattern : PySem.W.hasDictIn K A_Pattern = true) (P3_Pattern : PySem.W.plainOver K A_Pattern = true) (P4_Pattern : PySem.W.findIn K (.ref A_Pattern) "__setattr__" = some (some (.builtin "object.__setattr__")))
    (M1_Pattern : PySem.W.makesIn K A_Pattern = true) (M2_Pattern : PySem.W.findIn K (.ref A_Pattern) "__init__" = some (some (.ref f3))) (M3_Pattern : PySem.W.isFn K (.ref f3) = true) (M4_Pattern : PySem.W.keepIn K (.ref A_Pattern) = true)
    (N_Pattern_links : PySem.W.findIn K (.ref A_Pattern) "links" = some none)
    (N_Pattern_tests : PySem.W.findIn K (.ref A_Pattern) "tests" = some none)
    (N_Pattern_text : PySem.W.findIn K (.ref A_Pattern) "text" = some none)
    (m1_Pattern___eq__ : PySem.W.findIn K (.ref A_Pattern) "__eq__" = some (some (.ref f6))) (m2_Pattern___eq__ : PySem.W.isFn K (.ref f6) = true)
    (m1_Pattern___len__ : PySem.W.findIn K (.ref A_Pattern) "__len__" = some (some (.ref f5))) (m2_Pattern___len__ : PySem.W.isFn K (.ref f5) = true)
    (m1_Pattern___str__ : PySem.W.findIn K (.ref A_Pattern) "__str__" = some (some (.ref f4))) (m2_Pattern___str__ : PySem.W.isFn K (.ref f4) = true)
    (p1_Pattern_asked : PySem.W.findIn K (.ref A_Pattern) "asked" = some (some (.ref pp_Pattern_asked))) (p2_Pattern_asked : PySem.W.recIn K pp_Pattern_asked "property" = some (.ref f7 :: pq_Pattern_asked)) (p3_Pattern_asked : PySem.W.specialIn K (.ref pp_Pattern_asked) "__get__" = some (some (.builtin "property.__get__"))) (p4_Pattern_asked : PySem.W.takesIn K (.ref pp_Pattern_asked) = some true)
    (p1_Pattern_named : PySem.W.findIn K (.ref A_Pattern) "named" = some (some (.ref pp_Pattern_named))) (p2_Pattern_named : PySem.W.recIn K pp_Pattern_named "property" = some (.ref f8 :: pq_Pattern_named)) (p3_Pattern_named : PySem.W.specialIn K (.ref pp_Pattern_named) "__get__" = some (some (.builtin "property.__get__"))) (p4_Pattern_named : PySem.W.takesIn K (.ref pp_Pattern_named) = some true)
    (nf_Pattern : PySem.W.notFirst K A_Pattern (.ref A_Pattern) = true)
    (I1_Pattern : PySem.W.findIn K (.ref A_Pattern) "__class__" = some (some (.builtin "object.__class__"))) (I2_Pattern : PySem.W.specialIn K (.builtin "object.__class__") "__get__" = some (some (.builtin "getset_descriptor.__get__"))) (I3_Pattern : PySem.W.takesIn K (.builtin "object.__class__") = some true) (I4_Pattern : PySem.W.mroIn K A_Pattern (.type "object") = some true) (Q_Pattern_self : PySem.W.kitOne K (.ref A_Pattern) (.ref A_Pattern) = some true)
    (Q_Pattern_NoneType : PySem.W.kitOne K (.type "NoneType") (.ref A_Pattern) = some false)
    (Q_Pattern_bool : PySem.W.kitOne K (.type "bool") (.ref A_Pattern) = some false)
    (Q_Pattern_int : PySem.W.kitOne K (.type "int") (.ref A_Pattern) = some false)
    (Q_Pattern_str : PySem.W.kitOne K (.type "str") (.ref A_Pattern) = some false)
    (Q_Pattern_list : PySem.W.kitOne K (.type "list") (.ref A_Pattern) = some false)
    (Q_Pattern_tuple : PySem.W.kitOne K (.type "tuple") (.ref A_Pattern) = some false)
    (Q_Pattern_dict : PySem.W.kitOne K (.type "dict") (.ref A_Pattern) = some false)
    (W_Pattern_NoneType : PySem.W.notFirst K A_Pattern (.type "NoneType") = true)
    (W_Pattern_bool : PySem.W.notFirst K A_Pattern (.type "bool") = true)
    (W_Pattern_int : PySem.W.notFirst K A_Pattern (.type "int") = true)
    (W_Pattern_str : PySem.W.notFirst K A_Pattern (.type "str") = true)
    (W_Pattern_list : PySem.W.notFirst K A_Pattern (.type "list") = true)
    (W_Pattern_tuple : PySem.W.notFirst K A_Pattern (.type "tuple") = true)
    (W_Pattern_dict : PySem.W.notFirst K A_Pattern (.type "dict") = true) : ∃ T : Txt w K mg, T.f_law = f20 ∧ T.fd_law = PySem.W.fnOf "law" "law" (defArgs s_law) (defBody s_law) (defScope s_law) .none kV20 dc20 pm20 an20 cd20 ct20 := by
  have F0 := fun_mk (st := s_is_name) l0 c0 k0
  have b0 := F0.binds (ps := ["text"]) fun _ _ _ _ _ _ us hl => match us, hl with | [_], _ => rfl
  have F1 := fun_mk (st := s_read_test) l1 c1 k1
  have b1 := F1.binds (ps := ["word"]) fun _ _ _ _ _ _ us hl => match us, hl with | [_], _ => rfl
  have F2 := fun_mk (st := s_read_pattern) l2 c2 k2
  have b2 := F2.binds (ps := ["text"]) fun _ _ _ _ _ _ us hl => match us, hl with | [_], _ => rfl
  have F3 := fun_mk (st := s_Pattern_init) l3 c3 k3
  have b3 := F3.binds (ps := ["self", "text"]) fun _ _ _ _ _ _ us hl => match us, hl with | [_, _], _ => rfl
  have F4 := fun_mk (st := s_Pattern_str) l4 c4 k4
  have b4 := F4.binds (ps := ["self"]) fun _ _ _ _ _ _ us hl => match us, hl with | [_], _ => rfl
  have F5 := fun_mk (st := s_Pattern_len) l5 c5 k5
  have b5 := F5.binds (ps := ["self"]) fun _ _ _ _ _ _ us hl => match us, hl with | [_], _ => rfl
  have F6 := fun_mk (st := s_Pattern_eq) l6 c6 k6
  have b6 := F6.binds (ps := ["self", "other"]) fun _ _ _ _ _ _ us hl => match us, hl with | [_, _], _ => rfl
  have F7 := fun_mk (st := s_Pattern_asked) l7 c7 k7
  have b7 := F7.binds (ps := ["self"]) fun _ _ _ _ _ _ us hl => match us, hl with | [_], _ => rfl
  have F8 := fun_mk (st := s_Pattern_named) l8 c8 k8
  have b8 := F8.binds (ps := ["self"]) fun _ _ _ _ _ _ us hl => match us, hl with | [_], _ => rfl
  have F9 := fun_mk (st := s_l_cell) l9 c9 k9
  have b9 := F9.binds (ps := ["_law_script", "_law_k"]) fun _ _ _ _ _ _ us hl => match us, hl with | [_, _], _ => rfl
  have F10 := fun_mk (st := s_l_row) l10 c10 k10
  have b10 := F10.binds (ps := ["_law_cell_here", "_law_limits"]) fun _ _ _ _ _ _ us hl => match us, hl with | [_, _], _ => rfl
  have F11 := fun_mk (st := s_l_names) l11 c11 k11
  have b11 := F11.binds (ps := ["_law_cell_here", "_law_many"]) fun _ _ _ _ _ _ us hl => match us, hl with | [_, _], _ => rfl
  have F12 := fun_mk (st := s_l_number) l12 c12 k12
  have b12 := F12.binds (ps := ["_law_value"]) fun _ _ _ _ _ _ us hl => match us, hl with | [_], _ => rfl
  have F13 := fun_mk (st := s_l_drawn) l13 c13 k13
  have b13 := F13.binds (ps := ["_law_cell_here", "_law_kinds", "_law_marks"]) fun _ _ _ _ _ _ us hl => match us, hl with | [_, _, _], _ => rfl
  have F14 := fun_mk (st := s_l_odd) l14 c14 k14
  have b14 := F14.binds (ps := ["_law_pick"]) fun _ _ _ _ _ _ us hl => match us, hl with | [_], _ => rfl
  have F15 := fun_mk (st := s_l_bent) l15 c15 k15
  have b15 := F15.binds (ps := ["_law_cell_here", "_law_text"]) fun _ _ _ _ _ _ us hl => match us, hl with | [_, _], _ => rfl
  have F16 := fun_mk (st := s_l_name) l16 c16 k16
  have b16 := F16.binds (ps := ["_law_text"]) fun _ _ _ _ _ _ us hl => match us, hl with | [_], _ => rfl
  have F17 := fun_mk (st := s_l_read) l17 c17 k17
  have b17 := F17.binds (ps := ["_law_text"]) fun _ _ _ _ _ _ us hl => match us, hl with | [_], _ => rfl
  have F18 := fun_mk (st := s_l_refused) l18 c18 k18
  have b18 := F18.binds (ps := ["_law_text"]) fun _ _ _ _ _ _ us hl => match us, hl with | [_], _ => rfl
  have F19 := fun_mk (st := s_l_let) l19 c19 k19
  have b19 := F19.binds (ps := ["_law_text", "_law_tests", "_law_other"]) fun _ _ _ _ _ _ us hl => match us, hl with | [_, _, _], _ => rfl
  have F20 := fun_mk (st := s_law) l20 c20 k20
  have b20 := F20.binds (ps := ["_law_script"]) fun _ _ _ _ _ _ us hl => match us, hl with | [_], _ => rfl
  have FI_BadPattern := fun_mk (st := s_BadPattern) X9_BadPattern Xa_BadPattern Xb_BadPattern
  have bI_BadPattern := FI_BadPattern.binds (ps := ["self", "text"]) fun _ _ _ _ _ _ us hl => match us, hl with | [_, _], _ => rfl
  exact ⟨⟨f0, _, F0, PySem.W.mg_of X G a0, b0, f1, _, F1, PySem.W.mg_of X G a1, b1, f2, _, F2, PySem.W.mg_of X G a2, b2, f3, _, F3, b3, f4, _, F4, b4, f5, _, F5, b5, f6, _, F6, b6, f7, _, F7, b7, f8, _, F8, b8, f9, _, F9, PySem.W.mg_of X G a9, b9, f10, _, F10, PySem.W.mg_of X G a10, b10, f11, _, F11, PySem.W.mg_of X G a11, b11, f12, _, F12, PySem.W.mg_of X G a12, b12, f13, _, F13, PySem.W.mg_of X G a13, b13, f14, _, F14, PySem.W.mg_of X G a14, b14, f15, _, F15, PySem.W.mg_of X G a15, b15, f16, _, F16, PySem.W.mg_of X G a16, b16, f17, _, F17, PySem.W.mg_of X G a17, b17, f18, _, F18, PySem.W.mg_of X G a18, b18, f19, _, F19, PySem.W.mg_of X G a19, b19, f20, _, F20, PySem.W.mg_of X G a20, b20, PySem.W.mg_none_of X G z_ValueError, PySem.W.mg_none_of X G z_bool, PySem.W.mg_none_of X G z_int, PySem.W.mg_none_of X G z_isinstance, PySem.W.mg_none_of X G z_len, PySem.W.mg_none_of X G z_range, PySem.W.mg_none_of X G z_str, PySem.W.mg_none_of X G z_tuple, _, PySem.W.mg_of X G y_LETTERS, _, PySem.W.mg_of X G y_MOST_TESTS, kA_LINKS_0, PySem.W.mg_of X G y_LINKS, ModD.mk (es := [⟨kh_LINKS_0, .str ">" kt_LINKS_0, .str "parent" kv_LINKS_0⟩, ⟨kh_LINKS_1, .str "+" kt_LINKS_1, .str "elder" kv_LINKS_1⟩]) kl_LINKS_0 kk_LINKS km_LINKS (.cons (v := .str "parent") (by decide +kernel) ⟨_, rfl⟩ (fun cm S => rp_lit (by decide +kernel)) (.cons (v := .str "elder") (by decide +kernel) ⟨_, rfl⟩ (fun cm S => rp_lit (by decide +kernel)) .nil)), A_BadLine, PySem.W.mg_of X G x_BadLine, A_BadPattern, PySem.W.mg_of X G x_BadPattern, A_BadValue, PySem.W.mg_of X G x_BadValue, A_LaidError, PySem.W.mg_of X G x_LaidError, ⟨⟨_, _, _, _, _, _, _, _, _, _, _, _, _, _, _, X1_BadPattern, X2_BadPattern⟩, X3_BadPattern, X4_BadPattern, X5_BadPattern, X6_BadPattern⟩, fI_BadPattern, _, X7_BadPattern, X8_BadPattern, FI_BadPattern, bI_BadPattern, Y0_BadPattern, ⟨Xc_BadPattern, Xd_BadPattern, X4_BadPattern, Xe_BadPattern⟩, ⟨Xc_BadPattern, Xd_BadPattern, X4_BadPattern, Xe_BadPattern, Xf_BadPattern, Xg_BadPattern, Xh_BadPattern, Xi_BadPattern⟩, E_BadPattern_BadPattern, Q_BadPattern_BadLine, Q_BadPattern_BadValue, Q_BadPattern_LaidError, Q_BadPattern_ValueError, A_Pattern, PySem.W.mg_of X G x_Pattern, ⟨P1_Pattern, P2_Pattern, P3_Pattern, P4_Pattern⟩, ⟨M1_Pattern, M2_Pattern, M3_Pattern, M4_Pattern⟩, N_Pattern_links, N_Pattern_tests, N_Pattern_text, ⟨m1_Pattern___eq__, m2_Pattern___eq__, k6⟩, ⟨m1_Pattern___len__, m2_Pattern___len__, k5⟩, ⟨m1_Pattern___str__, m2_Pattern___str__, k4⟩, pp_Pattern_asked, ⟨p1_Pattern_asked, p3_Pattern_asked, p4_Pattern_asked, ⟨_, p2_Pattern_asked⟩⟩, pp_Pattern_named, ⟨p1_Pattern_named, p3_Pattern_named, p4_Pattern_named, ⟨_, p2_Pattern_named⟩⟩, nf_Pattern, ⟨⟨P1_Pattern, P2_Pattern, P3_Pattern, P4_Pattern⟩, I1_Pattern, I2_Pattern, I3_Pattern, I4_Pattern, Q_Pattern_self, tyAll_of Q_Pattern_NoneType Q_Pattern_bool Q_Pattern_int Q_Pattern_str Q_Pattern_list Q_Pattern_tuple Q_Pattern_dict⟩, (tyAll_of W_Pattern_NoneType W_Pattern_bool W_Pattern_int W_Pattern_str W_Pattern_list W_Pattern_tuple W_Pattern_dict)⟩, rfl, rfl⟩
def spLaw (K : PySem.W.Frag) : Sp := fun vs H Q _ => ∃ (a : Addr) (ns : List Int), vs = [.ref a] ∧ SqL K H a (ns.map V.int) ∧ ns.length ≤ 63 ∧ ∀ H', Q (.bl true) H'
theorem ok_end {P : Program} {w : World} {K : PySem.W.Frag} {mg : Str → Option Value} {base : Heap} (T : Txt w K mg) : FnOk P w K mg base (L2.CX P w) 7 T.f_law T.fd_law ["_law_script"] (spLaw K) := FnOk.imp (ok_law T) fun vs H Q E ⟨a, ns, e, hS, hl, k⟩ => by
  subst e
  exact law_sp (law_true ns hl) hS k
theorem all_mk {l : PySem.W.OpenLaw} {w : World} {K : PySem.W.Frag} {h : Heap} {mg : Str → Option Value} {fa : Addr} (X : K.In h) (G : h.Ns mainGlobals mg) (hfa : mg "law" = some (.ref fa))
    {f0 : Addr} {oc0 kV0 dc0 pm0 cd0 ct0 : Value} {od0 an0 : Option Addr} {sl0 : Array (Option Value)}
    {f1 : Addr} {oc1 kV1 dc1 pm1 cd1 ct1 : Value} {od1 an1 : Option Addr} {sl1 : Array (Option Value)}
    {f2 : Addr} {oc2 kV2 dc2 pm2 cd2 ct2 : Value} {od2 an2 : Option Addr} {sl2 : Array (Option Value)}
    {f3 : Addr} {oc3 kV3 dc3 pm3 cd3 ct3 : Value} {od3 an3 : Option Addr} {sl3 : Array (Option Value)}
    {f4 : Addr} {oc4 kV4 dc4 pm4 cd4 ct4 : Value} {od4 an4 : Option Addr} {sl4 : Array (Option Value)}
    {f5 : Addr} {oc5 kV5 dc5 pm5 cd5 ct5 : Value} {od5 an5 : Option Addr} {sl5 : Array (Option Value)}
    {f6 : Addr} {oc6 kV6 dc6 pm6 cd6 ct6 : Value} {od6 an6 : Option Addr} {sl6 : Array (Option Value)}
    {f7 : Addr} {oc7 kV7 dc7 pm7 cd7 ct7 : Value} {od7 an7 : Option Addr} {sl7 : Array (Option Value)}
    {f8 : Addr} {oc8 kV8 dc8 pm8 cd8 ct8 : Value} {od8 an8 : Option Addr} {sl8 : Array (Option Value)}
    {f9 : Addr} {oc9 kV9 dc9 pm9 cd9 ct9 : Value} {od9 an9 : Option Addr} {sl9 : Array (Option Value)}
    {f10 : Addr} {oc10 kV10 dc10 pm10 cd10 ct10 : Value} {od10 an10 : Option Addr} {sl10 : Array (Option Value)}
    {f11 : Addr} {oc11 kV11 dc11 pm11 cd11 ct11 : Value} {od11 an11 : Option Addr} {sl11 : Array (Option Value)}
    {f12 : Addr} {oc12 kV12 dc12 pm12 cd12 ct12 : Value} {od12 an12 : Option Addr} {sl12 : Array (Option Value)}
    {f13 : Addr} {oc13 kV13 dc13 pm13 cd13 ct13 : Value} {od13 an13 : Option Addr} {sl13 : Array (Option Value)}
    {f14 : Addr} {oc14 kV14 dc14 pm14 cd14 ct14 : Value} {od14 an14 : Option Addr} {sl14 : Array (Option Value)}
    {f15 : Addr} {oc15 kV15 dc15 pm15 cd15 ct15 : Value} {od15 an15 : Option Addr} {sl15 : Array (Option Value)}
    {f16 : Addr} {oc16 kV16 dc16 pm16 cd16 ct16 : Value} {od16 an16 : Option Addr} {sl16 : Array (Option Value)}
    {f17 : Addr} {oc17 kV17 dc17 pm17 cd17 ct17 : Value} {od17 an17 : Option Addr} {sl17 : Array (Option Value)}
    {f18 : Addr} {oc18 kV18 dc18 pm18 cd18 ct18 : Value} {od18 an18 : Option Addr} {sl18 : Array (Option Value)}
    {f19 : Addr} {oc19 kV19 dc19 pm19 cd19 ct19 : Value} {od19 an19 : Option Addr} {sl19 : Array (Option Value)}
    {f20 : Addr} {oc20 kV20 dc20 pm20 cd20 ct20 : Value} {od20 an20 : Option Addr} {sl20 : Array (Option Value)}
    {t_LETTERS : Tok}
    {t_MOST_TESTS : Tok}
    {kA_LINKS_0 : Addr} {kn_LINKS_0 : Nat}
    {kh_LINKS_0 : Int} {kt_LINKS_0 : Tok}
    {kv_LINKS_0 : Tok}
    {kh_LINKS_1 : Int} {kt_LINKS_1 : Tok}
    {kv_LINKS_1 : Tok}
    {A_BadLine : Addr}
    {A_BadPattern : Addr}
    {A_BadValue : Addr}
    {A_LaidError : Addr}
    {nm_BadPattern qq_BadPattern : Str} {N_BadPattern fI_BadPattern : Addr} {bs_BadPattern bm_BadPattern : List Value} {sn_BadPattern : List Str} {sb_BadPattern : List Value} {ab_BadPattern : Bool} {co_BadPattern : Option Bool} {dd_BadPattern od_BadPattern an_BadPattern : Option Addr} {m0_BadPattern m1_BadPattern m2_BadPattern m3_BadPattern m5_BadPattern : Option Value} {oc_BadPattern kV_BadPattern dc_BadPattern pm_BadPattern cd_BadPattern ct_BadPattern : Value} {sl_BadPattern : Array (Option Value)}
    {A_Pattern : Addr}
    {pp_Pattern_asked : Addr} {pq_Pattern_asked : List Value}
    {pp_Pattern_named : Addr} {pq_Pattern_named : List Value}
    (a0 : PySem.W.nsIn K mainGlobals "is_name" = some (some (.ref f0)))
    (l0 : K.lookup f0 = some ⟨oc0, od0, .func (PySem.W.fnOf "is_name" "is_name" (defArgs s_is_name) (defBody s_is_name) (defScope s_is_name) .none kV0 dc0 pm0 an0 cd0 ct0), sl0⟩) (c0 : PySem.W.codeIn K cd0 "is_name" = true) (k0 : PySem.W.keepIn K (.ref f0) = true)
    (a1 : PySem.W.nsIn K mainGlobals "read_test" = some (some (.ref f1)))
    (l1 : K.lookup f1 = some ⟨oc1, od1, .func (PySem.W.fnOf "read_test" "read_test" (defArgs s_read_test) (defBody s_read_test) (defScope s_read_test) .none kV1 dc1 pm1 an1 cd1 ct1), sl1⟩) (c1 : PySem.W.codeIn K cd1 "read_test" = true) (k1 : PySem.W.keepIn K (.ref f1) = true)
    (a2 : PySem.W.nsIn K mainGlobals "read_pattern" = some (some (.ref f2)))
    (l2 : K.lookup f2 = some ⟨oc2, od2, .func (PySem.W.fnOf "read_pattern" "read_pattern" (defArgs s_read_pattern) (defBody s_read_pattern) (defScope s_read_pattern) .none kV2 dc2 pm2 an2 cd2 ct2), sl2⟩) (c2 : PySem.W.codeIn K cd2 "read_pattern" = true) (k2 : PySem.W.keepIn K (.ref f2) = true)
    (l3 : K.lookup f3 = some ⟨oc3, od3, .func (PySem.W.fnOf "__init__" "Pattern.__init__" (defArgs s_Pattern_init) (defBody s_Pattern_init) (defScope s_Pattern_init) .none kV3 dc3 pm3 an3 cd3 ct3), sl3⟩) (c3 : PySem.W.codeIn K cd3 "Pattern.__init__" = true) (k3 : PySem.W.keepIn K (.ref f3) = true)
    (l4 : K.lookup f4 = some ⟨oc4, od4, .func (PySem.W.fnOf "__str__" "Pattern.__str__" (defArgs s_Pattern_str) (defBody s_Pattern_str) (defScope s_Pattern_str) .none kV4 dc4 pm4 an4 cd4 ct4), sl4⟩) (c4 : PySem.W.codeIn K cd4 "Pattern.__str__" = true) (k4 : PySem.W.keepIn K (.ref f4) = true)
    (l5 : K.lookup f5 = some ⟨oc5, od5, .func (PySem.W.fnOf "__len__" "Pattern.__len__" (defArgs s_Pattern_len) (defBody s_Pattern_len) (defScope s_Pattern_len) .none kV5 dc5 pm5 an5 cd5 ct5), sl5⟩) (c5 : PySem.W.codeIn K cd5 "Pattern.__len__" = true) (k5 : PySem.W.keepIn K (.ref f5) = true)
    (l6 : K.lookup f6 = some ⟨oc6, od6, .func (PySem.W.fnOf "__eq__" "Pattern.__eq__" (defArgs s_Pattern_eq) (defBody s_Pattern_eq) (defScope s_Pattern_eq) .none kV6 dc6 pm6 an6 cd6 ct6), sl6⟩) (c6 : PySem.W.codeIn K cd6 "Pattern.__eq__" = true) (k6 : PySem.W.keepIn K (.ref f6) = true)
    (l7 : K.lookup f7 = some ⟨oc7, od7, .func (PySem.W.fnOf "asked" "Pattern.asked" (defArgs s_Pattern_asked) (defBody s_Pattern_asked) (defScope s_Pattern_asked) .none kV7 dc7 pm7 an7 cd7 ct7), sl7⟩) (c7 : PySem.W.codeIn K cd7 "Pattern.asked" = true) (k7 : PySem.W.keepIn K (.ref f7) = true)
    (l8 : K.lookup f8 = some ⟨oc8, od8, .func (PySem.W.fnOf "named" "Pattern.named" (defArgs s_Pattern_named) (defBody s_Pattern_named) (defScope s_Pattern_named) .none kV8 dc8 pm8 an8 cd8 ct8), sl8⟩) (c8 : PySem.W.codeIn K cd8 "Pattern.named" = true) (k8 : PySem.W.keepIn K (.ref f8) = true)
    (a9 : PySem.W.nsIn K mainGlobals "_law_cell" = some (some (.ref f9)))
    (l9 : K.lookup f9 = some ⟨oc9, od9, .func (PySem.W.fnOf "_law_cell" "_law_cell" (defArgs s_l_cell) (defBody s_l_cell) (defScope s_l_cell) .none kV9 dc9 pm9 an9 cd9 ct9), sl9⟩) (c9 : PySem.W.codeIn K cd9 "_law_cell" = true) (k9 : PySem.W.keepIn K (.ref f9) = true)
    (a10 : PySem.W.nsIn K mainGlobals "_law_row" = some (some (.ref f10)))
    (l10 : K.lookup f10 = some ⟨oc10, od10, .func (PySem.W.fnOf "_law_row" "_law_row" (defArgs s_l_row) (defBody s_l_row) (defScope s_l_row) .none kV10 dc10 pm10 an10 cd10 ct10), sl10⟩) (c10 : PySem.W.codeIn K cd10 "_law_row" = true) (k10 : PySem.W.keepIn K (.ref f10) = true)
    (a11 : PySem.W.nsIn K mainGlobals "_law_names" = some (some (.ref f11)))
    (l11 : K.lookup f11 = some ⟨oc11, od11, .func (PySem.W.fnOf "_law_names" "_law_names" (defArgs s_l_names) (defBody s_l_names) (defScope s_l_names) .none kV11 dc11 pm11 an11 cd11 ct11), sl11⟩) (c11 : PySem.W.codeIn K cd11 "_law_names" = true) (k11 : PySem.W.keepIn K (.ref f11) = true)
    (a12 : PySem.W.nsIn K mainGlobals "_law_number" = some (some (.ref f12)))
    (l12 : K.lookup f12 = some ⟨oc12, od12, .func (PySem.W.fnOf "_law_number" "_law_number" (defArgs s_l_number) (defBody s_l_number) (defScope s_l_number) .none kV12 dc12 pm12 an12 cd12 ct12), sl12⟩) (c12 : PySem.W.codeIn K cd12 "_law_number" = true) (k12 : PySem.W.keepIn K (.ref f12) = true)
    (a13 : PySem.W.nsIn K mainGlobals "_law_drawn" = some (some (.ref f13)))
    (l13 : K.lookup f13 = some ⟨oc13, od13, .func (PySem.W.fnOf "_law_drawn" "_law_drawn" (defArgs s_l_drawn) (defBody s_l_drawn) (defScope s_l_drawn) .none kV13 dc13 pm13 an13 cd13 ct13), sl13⟩) (c13 : PySem.W.codeIn K cd13 "_law_drawn" = true) (k13 : PySem.W.keepIn K (.ref f13) = true)
    (a14 : PySem.W.nsIn K mainGlobals "_law_odd" = some (some (.ref f14)))
    (l14 : K.lookup f14 = some ⟨oc14, od14, .func (PySem.W.fnOf "_law_odd" "_law_odd" (defArgs s_l_odd) (defBody s_l_odd) (defScope s_l_odd) .none kV14 dc14 pm14 an14 cd14 ct14), sl14⟩) (c14 : PySem.W.codeIn K cd14 "_law_odd" = true) (k14 : PySem.W.keepIn K (.ref f14) = true)
    (a15 : PySem.W.nsIn K mainGlobals "_law_bent" = some (some (.ref f15)))
    (l15 : K.lookup f15 = some ⟨oc15, od15, .func (PySem.W.fnOf "_law_bent" "_law_bent" (defArgs s_l_bent) (defBody s_l_bent) (defScope s_l_bent) .none kV15 dc15 pm15 an15 cd15 ct15), sl15⟩) (c15 : PySem.W.codeIn K cd15 "_law_bent" = true) (k15 : PySem.W.keepIn K (.ref f15) = true)
    (a16 : PySem.W.nsIn K mainGlobals "_law_name" = some (some (.ref f16)))
    (l16 : K.lookup f16 = some ⟨oc16, od16, .func (PySem.W.fnOf "_law_name" "_law_name" (defArgs s_l_name) (defBody s_l_name) (defScope s_l_name) .none kV16 dc16 pm16 an16 cd16 ct16), sl16⟩) (c16 : PySem.W.codeIn K cd16 "_law_name" = true) (k16 : PySem.W.keepIn K (.ref f16) = true)
    (a17 : PySem.W.nsIn K mainGlobals "_law_read" = some (some (.ref f17)))
    (l17 : K.lookup f17 = some ⟨oc17, od17, .func (PySem.W.fnOf "_law_read" "_law_read" (defArgs s_l_read) (defBody s_l_read) (defScope s_l_read) .none kV17 dc17 pm17 an17 cd17 ct17), sl17⟩) (c17 : PySem.W.codeIn K cd17 "_law_read" = true) (k17 : PySem.W.keepIn K (.ref f17) = true)
    (a18 : PySem.W.nsIn K mainGlobals "_law_refused" = some (some (.ref f18)))
    (l18 : K.lookup f18 = some ⟨oc18, od18, .func (PySem.W.fnOf "_law_refused" "_law_refused" (defArgs s_l_refused) (defBody s_l_refused) (defScope s_l_refused) .none kV18 dc18 pm18 an18 cd18 ct18), sl18⟩) (c18 : PySem.W.codeIn K cd18 "_law_refused" = true) (k18 : PySem.W.keepIn K (.ref f18) = true)
    (a19 : PySem.W.nsIn K mainGlobals "_law_let" = some (some (.ref f19)))
    (l19 : K.lookup f19 = some ⟨oc19, od19, .func (PySem.W.fnOf "_law_let" "_law_let" (defArgs s_l_let) (defBody s_l_let) (defScope s_l_let) .none kV19 dc19 pm19 an19 cd19 ct19), sl19⟩) (c19 : PySem.W.codeIn K cd19 "_law_let" = true) (k19 : PySem.W.keepIn K (.ref f19) = true)
    (a20 : PySem.W.nsIn K mainGlobals "law" = some (some (.ref f20)))
    (l20 : K.lookup f20 = some ⟨oc20, od20, .func (PySem.W.fnOf "law" "law" (defArgs s_law) (defBody s_law) (defScope s_law) .none kV20 dc20 pm20 an20 cd20 ct20), sl20⟩) (c20 : PySem.W.codeIn K cd20 "law" = true) (k20 : PySem.W.keepIn K (.ref f20) = true)
    (z_ValueError : PySem.W.nsIn K mainGlobals "ValueError" = some none)
    (z_bool : PySem.W.nsIn K mainGlobals "bool" = some none)
    (z_int : PySem.W.nsIn K mainGlobals "int" = some none)
    (z_isinstance : PySem.W.nsIn K mainGlobals "isinstance" = some none)
    (z_len : PySem.W.nsIn K mainGlobals "len" = some none)
    (z_range : PySem.W.nsIn K mainGlobals "range" = some none)
    (z_str : PySem.W.nsIn K mainGlobals "str" = some none)
    (z_tuple : PySem.W.nsIn K mainGlobals "tuple" = some none)
    (y_LETTERS : PySem.W.nsIn K mainGlobals "LETTERS" = some (some (.str "abcdefghijklmnopqrstuvwxyz" t_LETTERS)))
    (y_MOST_TESTS : PySem.W.nsIn K mainGlobals "MOST_TESTS" = some (some (.int 4 t_MOST_TESTS)))
    (y_LINKS : PySem.W.nsIn K mainGlobals "LINKS" = some (some (.ref kA_LINKS_0)))
    (kl_LINKS_0 : K.lookup kA_LINKS_0 = some ⟨.type "dict", none, .dict #[⟨kh_LINKS_0, .str ">" kt_LINKS_0, .str "parent" kv_LINKS_0⟩, ⟨kh_LINKS_1, .str "+" kt_LINKS_1, .str "elder" kv_LINKS_1⟩] kn_LINKS_0, #[]⟩)
    (kk_LINKS : PySem.W.KeysLit w.params [⟨kh_LINKS_0, .str ">" kt_LINKS_0, .str "parent" kv_LINKS_0⟩, ⟨kh_LINKS_1, .str "+" kt_LINKS_1, .str "elder" kv_LINKS_1⟩])
    (km_LINKS : (kA_LINKS_0 == sysModules) = false)
    (x_BadLine : PySem.W.nsIn K mainGlobals "BadLine" = some (some (.ref A_BadLine)))
    (x_BadPattern : PySem.W.nsIn K mainGlobals "BadPattern" = some (some (.ref A_BadPattern)))
    (x_BadValue : PySem.W.nsIn K mainGlobals "BadValue" = some (some (.ref A_BadValue)))
    (x_LaidError : PySem.W.nsIn K mainGlobals "LaidError" = some (some (.ref A_LaidError)))
    (X1_BadPattern : K.lookup A_BadPattern = some (excClassObj nm_BadPattern qq_BadPattern A_BadPattern N_BadPattern bs_BadPattern bm_BadPattern true sn_BadPattern sb_BadPattern ab_BadPattern co_BadPattern dd_BadPattern m0_BadPattern m1_BadPattern m2_BadPattern m3_BadPattern m5_BadPattern "ValueError.__new__")) (X2_BadPattern : PySem.HandSPX.refsVE bm_BadPattern = true)
    (X3_BadPattern : PySem.W.findIn K (.ref A_BadPattern) "__setattr__" = some (some (.builtin "object.__setattr__"))) (X4_BadPattern : PySem.W.subIn K (.ref A_BadPattern) (.type "BaseException") = some true) (X5_BadPattern : PySem.W.typeIn K (.ref A_BadPattern) = some (.type "type")) (X6_BadPattern : PySem.W.keepIn K (.ref A_BadPattern) = true)
    (X7_BadPattern : PySem.W.findIn K (.ref A_BadPattern) "__init__" = some (some (.ref fI_BadPattern))) (X8_BadPattern : PySem.W.typeIn K (.ref fI_BadPattern) = some (.type "function")) (X9_BadPattern : K.lookup fI_BadPattern = some ⟨oc_BadPattern, od_BadPattern, .func (PySem.W.fnOf "__init__" "BadPattern.__init__" (defArgs s_BadPattern) (defBody s_BadPattern) (defScope s_BadPattern) .none kV_BadPattern dc_BadPattern pm_BadPattern an_BadPattern cd_BadPattern ct_BadPattern), sl_BadPattern⟩) (Xa_BadPattern : PySem.W.codeIn K cd_BadPattern "BadPattern.__init__" = true) (Xb_BadPattern : PySem.W.keepIn K (.ref fI_BadPattern) = true)
    (Y0_BadPattern : PySem.W.findIn K (.ref A_BadPattern) "text" = some none)
    (Xc_BadPattern : PySem.W.findIn K (.ref A_BadPattern) "__getattribute__" = some (some (.builtin "BaseException.__getattribute__"))) (Xd_BadPattern : PySem.W.findIn K (.ref A_BadPattern) "__getattr__" = some none) (Xe_BadPattern : PySem.W.hasDictIn K A_BadPattern = true)
    (Xf_BadPattern : PySem.W.findIn K (.ref A_BadPattern) "__class__" = some (some (.builtin "object.__class__"))) (Xg_BadPattern : PySem.W.specialIn K (.builtin "object.__class__") "__get__" = some (some (.builtin "getset_descriptor.__get__"))) (Xh_BadPattern : PySem.W.takesIn K (.builtin "object.__class__") = some true) (Xi_BadPattern : PySem.W.mroIn K A_BadPattern (.type "object") = some true)
    (E_BadPattern_BadPattern : PySem.W.exmOne K (.ref A_BadPattern) (.ref A_BadPattern) = some true)
    (Q_BadPattern_BadLine : PySem.W.kitOne K (.ref A_BadPattern) (.ref A_BadLine) = some false)
    (Q_BadPattern_BadValue : PySem.W.kitOne K (.ref A_BadPattern) (.ref A_BadValue) = some false)
    (Q_BadPattern_LaidError : PySem.W.kitOne K (.ref A_BadPattern) (.ref A_LaidError) = some true)
    (Q_BadPattern_ValueError : PySem.W.kitOne K (.ref A_BadPattern) (.type "ValueError") = some true)
    (x_Pattern : PySem.W.nsIn K mainGlobals "Pattern" = some (some (.ref A_Pattern))) (P1_Pattern : PySem.W.plainGet K A_Pattern Str.empty = true) (P2_Pattern : PySem.W.hasDictIn K A_Pattern = true) (P3_Pattern : PySem.W.plainOver K A_Pattern = true) (P4_Pattern : PySem.W.findIn K (.ref A_Pattern) "__setattr__" = some (some (.builtin "object.__setattr__")))
    (M1_Pattern : PySem.W.makesIn K A_Pattern = true) (M2_Pattern : PySem.W.findIn K (.ref A_Pattern) "__init__" = some (some (.ref f3))) (M3_Pattern : PySem.W.isFn K (.ref f3) = true) (M4_Pattern : PySem.W.keepIn K (.ref A_Pattern) = true)
    (N_Pattern_links : PySem.W.findIn K (.ref A_Pattern) "links" = some none)
    (N_Pattern_tests : PySem.W.findIn K (.ref A_Pattern) "tests" = some none)
    (N_Pattern_text : PySem.W.findIn K (.ref A_Pattern) "text" = some none)
    (m1_Pattern___eq__ : PySem.W.findIn K (.ref A_Pattern) "__eq__" = some (some (.ref f6))) (m2_Pattern___eq__ : PySem.W.isFn K (.ref f6) = true)
    (m1_Pattern___len__ : PySem.W.findIn K (.ref A_Pattern) "__len__" = some (some (.ref f5))) (m2_Pattern___len__ : PySem.W.isFn K (.ref f5) = true)
    (m1_Pattern___str__ : PySem.W.findIn K (.ref A_Pattern) "__str__" = some (some (.ref f4))) (m2_Pattern___str__ : PySem.W.isFn K (.ref f4) = true)
    (p1_Pattern_asked : PySem.W.findIn K (.ref A_Pattern) "asked" = some (some (.ref pp_Pattern_asked))) (p2_Pattern_asked : PySem.W.recIn K pp_Pattern_asked "property" = some (.ref f7 :: pq_Pattern_asked)) (p3_Pattern_asked : PySem.W.specialIn K (.ref pp_Pattern_asked) "__get__" = some (some (.builtin "property.__get__"))) (p4_Pattern_asked : PySem.W.takesIn K (.ref pp_Pattern_asked) = some true)
    (p1_Pattern_named : PySem.W.findIn K (.ref A_Pattern) "named" = some (some (.ref pp_Pattern_named))) (p2_Pattern_named : PySem.W.recIn K pp_Pattern_named "property" = some (.ref f8 :: pq_Pattern_named)) (p3_Pattern_named : PySem.W.specialIn K (.ref pp_Pattern_named) "__get__" = some (some (.builtin "property.__get__"))) (p4_Pattern_named : PySem.W.takesIn K (.ref pp_Pattern_named) = some true)
    (nf_Pattern : PySem.W.notFirst K A_Pattern (.ref A_Pattern) = true)
    (I1_Pattern : PySem.W.findIn K (.ref A_Pattern) "__class__" = some (some (.builtin "object.__class__"))) (I2_Pattern : PySem.W.specialIn K (.builtin "object.__class__") "__get__" = some (some (.builtin "getset_descriptor.__get__"))) (I3_Pattern : PySem.W.takesIn K (.builtin "object.__class__") = some true) (I4_Pattern : PySem.W.mroIn K A_Pattern (.type "object") = some true) (Q_Pattern_self : PySem.W.kitOne K (.ref A_Pattern) (.ref A_Pattern) = some true)
    (Q_Pattern_NoneType : PySem.W.kitOne K (.type "NoneType") (.ref A_Pattern) = some false)
    (Q_Pattern_bool : PySem.W.kitOne K (.type "bool") (.ref A_Pattern) = some false)
    (Q_Pattern_int : PySem.W.kitOne K (.type "int") (.ref A_Pattern) = some false)
    (Q_Pattern_str : PySem.W.kitOne K (.type "str") (.ref A_Pattern) = some false)
    (Q_Pattern_list : PySem.W.kitOne K (.type "list") (.ref A_Pattern) = some false)
    (Q_Pattern_tuple : PySem.W.kitOne K (.type "tuple") (.ref A_Pattern) = some false)
    (Q_Pattern_dict : PySem.W.kitOne K (.type "dict") (.ref A_Pattern) = some false)
    (W_Pattern_NoneType : PySem.W.notFirst K A_Pattern (.type "NoneType") = true)
    (W_Pattern_bool : PySem.W.notFirst K A_Pattern (.type "bool") = true)
    (W_Pattern_int : PySem.W.notFirst K A_Pattern (.type "int") = true)
    (W_Pattern_str : PySem.W.notFirst K A_Pattern (.type "str") = true)
    (W_Pattern_list : PySem.W.notFirst K A_Pattern (.type "list") = true)
    (W_Pattern_tuple : PySem.W.notFirst K A_Pattern (.type "tuple") = true)
    (W_Pattern_dict : PySem.W.notFirst K A_Pattern (.type "dict") = true) :
    ∃ fd : FuncData, (∀ (s : Shared) (v : Value), BindsTo s fd ⟨[v], []⟩ [("_law_script", v)]) ∧ ∀ base : Heap, K.In base → base.Ns mainGlobals mg → FnOk l.prog w K mg base (L2.CX l.prog w) 7 fa fd ["_law_script"] (spLaw K) := by
  have e := hfa.symm.trans (PySem.W.mg_of X G a20)
  cases e
  obtain ⟨T, e1, e2⟩ := txt_mk X G a0 l0 c0 k0 a1 l1 c1 k1 a2 l2 c2 k2 l3 c3 k3 l4 c4 k4 l5 c5 k5 l6 c6 k6 l7 c7 k7 l8 c8 k8 a9 l9 c9 k9 a10 l10 c10 k10 a11 l11 c11 k11 a12 l12 c12 k12 a13 l13 c13 k13 a14 l14 c14 k14 a15 l15 c15 k15 a16 l16 c16 k16 a17 l17 c17 k17 a18 l18 c18 k18 a19 l19 c19 k19 a20 l20 c20 k20 z_ValueError z_bool z_int z_isinstance z_len z_range z_str z_tuple y_LETTERS y_MOST_TESTS y_LINKS kl_LINKS_0 kk_LINKS km_LINKS x_BadLine x_BadPattern x_BadValue x_LaidError X1_BadPattern X2_BadPattern X3_BadPattern X4_BadPattern X5_BadPattern X6_BadPattern X7_BadPattern X8_BadPattern X9_BadPattern Xa_BadPattern Xb_BadPattern Y0_BadPattern Xc_BadPattern Xd_BadPattern Xe_BadPattern Xf_BadPattern Xg_BadPattern Xh_BadPattern Xi_BadPattern E_BadPattern_BadPattern Q_BadPattern_BadLine Q_BadPattern_BadValue Q_BadPattern_LaidError Q_BadPattern_ValueError x_Pattern P1_Pattern P2_Pattern P3_Pattern P4_Pattern M1_Pattern M2_Pattern M3_Pattern M4_Pattern N_Pattern_links N_Pattern_tests N_Pattern_text m1_Pattern___eq__ m2_Pattern___eq__ m1_Pattern___len__ m2_Pattern___len__ m1_Pattern___str__ m2_Pattern___str__ p1_Pattern_asked p2_Pattern_asked p3_Pattern_asked p4_Pattern_asked p1_Pattern_named p2_Pattern_named p3_Pattern_named p4_Pattern_named nf_Pattern I1_Pattern I2_Pattern I3_Pattern I4_Pattern Q_Pattern_self Q_Pattern_NoneType Q_Pattern_bool Q_Pattern_int Q_Pattern_str Q_Pattern_list Q_Pattern_tuple Q_Pattern_dict W_Pattern_NoneType W_Pattern_bool W_Pattern_int W_Pattern_str W_Pattern_list W_Pattern_tuple W_Pattern_dict
  refine ⟨PySem.W.fnOf "law" "law" (defArgs s_law) (defBody s_law) (defScope s_law) .none kV20 dc20 pm20 an20 cd20 ct20, fun s v => .of_eq rfl, fun base _ _ => ?_⟩
  have z := ok_end (P := l.prog) (w := w) (base := base) T
  rw [e1, e2] at z
  exact z
end Lk
end S_P_end
section S_P_top
set_option Elab.async false
set_option linter.all false
open PySem PySem.W PyProof.Rows
set_option maxRecDepth 100000 in
set_option maxHeartbeats 0 in
theorem PySem.Challenge.cw_laidforall_k10_patterns_read_holds : PySem.Challenge.rw_laidforall_k10_patterns_read.Holds := by
  w_on; o_law; k_head; (case hw => w_witness2)
  k_fill
  refine L2.walk_of (l := PySem.Challenge.rw_laidforall_k10_patterns_read) (n := 63) (k := 7) (x := "_law_script") (CX := fun w => L2.CX PySem.Challenge.rw_laidforall_k10_patterns_read.prog w) (sp := fun w => Lk.spLaw _) rfl (by decide) rfl ⟨rfl, by decide, by decide⟩ (fun w h Y => PySem.W.kIn_of Y) ?F (fun _ _ a ns hl _ hS => ⟨a, ns, rfl, hS, hl, fun _ => rfl⟩) (fun _ _ _ _ _ h => Dx.cx_never h)
  case F =>
    intro w mg fa h KX G hmg
    refine' Lk.all_mk KX G hmg ?a0 ?l0 ?c0 ?k0 ?a1 ?l1 ?c1 ?k1 ?a2 ?l2 ?c2 ?k2 ?l3 ?c3 ?k3 ?l4 ?c4 ?k4 ?l5 ?c5 ?k5 ?l6 ?c6 ?k6 ?l7 ?c7 ?k7 ?l8 ?c8 ?k8 ?a9 ?l9 ?c9 ?k9 ?a10 ?l10 ?c10 ?k10 ?a11 ?l11 ?c11 ?k11 ?a12 ?l12 ?c12 ?k12 ?a13 ?l13 ?c13 ?k13 ?a14 ?l14 ?c14 ?k14 ?a15 ?l15 ?c15 ?k15 ?a16 ?l16 ?c16 ?k16 ?a17 ?l17 ?c17 ?k17 ?a18 ?l18 ?c18 ?k18 ?a19 ?l19 ?c19 ?k19 ?a20 ?l20 ?c20 ?k20 ?z_ValueError ?z_bool ?z_int ?z_isinstance ?z_len ?z_range ?z_str ?z_tuple ?y_LETTERS ?y_MOST_TESTS ?y_LINKS ?kl_LINKS_0 ?kk_LINKS ?km_LINKS ?x_BadLine ?x_BadPattern ?x_BadValue ?x_LaidError ?X1_BadPattern ?X2_BadPattern ?X3_BadPattern ?X4_BadPattern ?X5_BadPattern ?X6_BadPattern ?X7_BadPattern ?X8_BadPattern ?X9_BadPattern ?Xa_BadPattern ?Xb_BadPattern ?Y0_BadPattern ?Xc_BadPattern ?Xd_BadPattern ?Xe_BadPattern ?Xf_BadPattern ?Xg_BadPattern ?Xh_BadPattern ?Xi_BadPattern ?E_BadPattern_BadPattern ?Q_BadPattern_BadLine ?Q_BadPattern_BadValue ?Q_BadPattern_LaidError ?Q_BadPattern_ValueError ?x_Pattern ?P1_Pattern ?P2_Pattern ?P3_Pattern ?P4_Pattern ?M1_Pattern ?M2_Pattern ?M3_Pattern ?M4_Pattern ?N_Pattern_links ?N_Pattern_tests ?N_Pattern_text ?m1_Pattern___eq__ ?m2_Pattern___eq__ ?m1_Pattern___len__ ?m2_Pattern___len__ ?m1_Pattern___str__ ?m2_Pattern___str__ ?p1_Pattern_asked ?p2_Pattern_asked ?p3_Pattern_asked ?p4_Pattern_asked ?p1_Pattern_named ?p2_Pattern_named ?p3_Pattern_named ?p4_Pattern_named ?nf_Pattern ?I1_Pattern ?I2_Pattern ?I3_Pattern ?I4_Pattern ?Q_Pattern_self ?Q_Pattern_NoneType ?Q_Pattern_bool ?Q_Pattern_int ?Q_Pattern_str ?Q_Pattern_list ?Q_Pattern_tuple ?Q_Pattern_dict ?W_Pattern_NoneType ?W_Pattern_bool ?W_Pattern_int ?W_Pattern_str ?W_Pattern_list ?W_Pattern_tuple ?W_Pattern_dict
    (case y_LETTERS => k_is)
    (case y_MOST_TESTS => k_is)
    (case y_LINKS => k_is)
    (case x_BadLine => k_is)
    (case x_BadPattern => k_is)
    (case x_BadValue => k_is)
    (case x_LaidError => k_is)
    (case x_Pattern => k_is)
    (case kl_LINKS_0 => k_is)
    (case M2_Pattern => k_is)
    (case m1_Pattern___eq__ => k_is)
    (case m1_Pattern___len__ => k_is)
    (case m1_Pattern___str__ => k_is)
    (case p1_Pattern_asked => k_is)
    (case p1_Pattern_named => k_is)
    (case p2_Pattern_asked => k_is)
    (case p2_Pattern_named => k_is)
    (case a0 => k_is)
    (case l0 => k_is)
    (case c0 => k_is)
    (case k0 => k_is)
    (case a1 => k_is)
    (case l1 => k_is)
    (case c1 => k_is)
    (case k1 => k_is)
    (case a2 => k_is)
    (case l2 => k_is)
    (case c2 => k_is)
    (case k2 => k_is)
    (case l3 => k_is)
    (case c3 => k_is)
    (case k3 => k_is)
    (case l4 => k_is)
    (case c4 => k_is)
    (case k4 => k_is)
    (case l5 => k_is)
    (case c5 => k_is)
    (case k5 => k_is)
    (case l6 => k_is)
    (case c6 => k_is)
    (case k6 => k_is)
    (case l7 => k_is)
    (case c7 => k_is)
    (case k7 => k_is)
    (case l8 => k_is)
    (case c8 => k_is)
    (case k8 => k_is)
    (case a9 => k_is)
    (case l9 => k_is)
    (case c9 => k_is)
    (case k9 => k_is)
    (case a10 => k_is)
    (case l10 => k_is)
    (case c10 => k_is)
    (case k10 => k_is)
    (case a11 => k_is)
    (case l11 => k_is)
    (case c11 => k_is)
    (case k11 => k_is)
    (case a12 => k_is)
    (case l12 => k_is)
    (case c12 => k_is)
    (case k12 => k_is)
    (case a13 => k_is)
    (case l13 => k_is)
    (case c13 => k_is)
    (case k13 => k_is)
    (case a14 => k_is)
    (case l14 => k_is)
    (case c14 => k_is)
    (case k14 => k_is)
    (case a15 => k_is)
    (case l15 => k_is)
    (case c15 => k_is)
    (case k15 => k_is)
    (case a16 => k_is)
    (case l16 => k_is)
    (case c16 => k_is)
    (case k16 => k_is)
    (case a17 => k_is)
    (case l17 => k_is)
    (case c17 => k_is)
    (case k17 => k_is)
    (case a18 => k_is)
    (case l18 => k_is)
    (case c18 => k_is)
    (case k18 => k_is)
    (case a19 => k_is)
    (case l19 => k_is)
    (case c19 => k_is)
    (case k19 => k_is)
    (case a20 => k_is)
    (case l20 => k_is)
    (case c20 => k_is)
    (case k20 => k_is)
    (case z_ValueError => k_is)
    (case z_bool => k_is)
    (case z_int => k_is)
    (case z_isinstance => k_is)
    (case z_len => k_is)
    (case z_range => k_is)
    (case z_str => k_is)
    (case z_tuple => k_is)
    (case kk_LINKS => k_keys)
    (case km_LINKS => decide)
    (case X1_BadPattern => k_is)
    (case X2_BadPattern => decide +kernel)
    (case X3_BadPattern => k_is)
    (case X4_BadPattern => k_is)
    (case X5_BadPattern => k_is)
    (case X6_BadPattern => k_is)
    (case X7_BadPattern => k_is)
    (case X8_BadPattern => k_is)
    (case X9_BadPattern => k_is)
    (case Xa_BadPattern => k_is)
    (case Xb_BadPattern => k_is)
    (case Y0_BadPattern => k_is)
    (case Xc_BadPattern => k_is)
    (case Xd_BadPattern => k_is)
    (case Xe_BadPattern => k_is)
    (case Xf_BadPattern => k_is)
    (case Xg_BadPattern => k_is)
    (case Xh_BadPattern => k_is)
    (case Xi_BadPattern => k_is)
    (case E_BadPattern_BadPattern => first | k_is | rfl | decide +kernel)
    (case Q_BadPattern_BadLine => first | k_is | rfl | decide +kernel)
    (case Q_BadPattern_BadValue => first | k_is | rfl | decide +kernel)
    (case Q_BadPattern_LaidError => first | k_is | rfl | decide +kernel)
    (case Q_BadPattern_ValueError => first | k_is | rfl | decide +kernel)
    (case P1_Pattern => k_is)
    (case P2_Pattern => k_is)
    (case P3_Pattern => k_is)
    (case P4_Pattern => k_is)
    (case M1_Pattern => k_is)
    (case M3_Pattern => k_is)
    (case M4_Pattern => k_is)
    (case N_Pattern_links => k_is)
    (case N_Pattern_tests => k_is)
    (case N_Pattern_text => k_is)
    (case m2_Pattern___eq__ => k_is)
    (case m2_Pattern___len__ => k_is)
    (case m2_Pattern___str__ => k_is)
    (case p3_Pattern_asked => k_is)
    (case p4_Pattern_asked => k_is)
    (case p3_Pattern_named => k_is)
    (case p4_Pattern_named => k_is)
    (case nf_Pattern => k_is)
    (case I1_Pattern => k_is)
    (case I2_Pattern => k_is)
    (case I3_Pattern => k_is)
    (case I4_Pattern => k_is)
    (case Q_Pattern_self => first | k_is | rfl | decide +kernel)
    (case Q_Pattern_NoneType => first | k_is | rfl | decide +kernel)
    (case Q_Pattern_bool => first | k_is | rfl | decide +kernel)
    (case Q_Pattern_int => first | k_is | rfl | decide +kernel)
    (case Q_Pattern_str => first | k_is | rfl | decide +kernel)
    (case Q_Pattern_list => first | k_is | rfl | decide +kernel)
    (case Q_Pattern_tuple => first | k_is | rfl | decide +kernel)
    (case Q_Pattern_dict => first | k_is | rfl | decide +kernel)
    (case W_Pattern_NoneType => k_is)
    (case W_Pattern_bool => k_is)
    (case W_Pattern_int => k_is)
    (case W_Pattern_str => k_is)
    (case W_Pattern_list => k_is)
    (case W_Pattern_tuple => k_is)
    (case W_Pattern_dict => k_is)
end S_P_top
