import PyProof.Rows.All
import Wide.All
import OpenK.AllK
import Wide.FinOn
import HandS.ForMost
import HandS.ForExc
import HandS.Evl
import HandS.Walk
import HandS.IsInst
import HandS.TupAny
import HandS.Deep
import HandS.Flow
import HandS.Wide
import HandS.Text
import HandS.CallSlots
import HandS.ExcInit
import HandS.ExcField
import HandS.ExcIs
import KE.KExcIs
import HandS.FStr
import HandS.Iter
import HandS.Zip0
import PyProof.EnumMake
import PyProof.Draws
import HandS.Style
import HandS.ClsMeth
import KE.GoesMore
import KE.GoesZip
import PyProof.StrOps2
import PyProof.Rows.MatchSeqLen
import KE.KUnpack
import HandS.NoneIn
import HandS.More
import HandS.Star
import HandS.SlotsOwn
import HandS.OwnIter
import HandS.IterVal
import KE.KCallOwn
import KE.KOwnIter
import HandS.TupLen
import HandS.Property
import HandS.Conv
import HandS.SortRule
import KE.KDictDisplayH
import HandS.Defaults
import HandS.TryOnly
import HandS.SortInts
import HandS.SortOrd
import HandS.DictComp
import KE.DataMinMax
import KE.KDictCopyH
import HandS.ListItems
import PyProof.ListStr
import HandS.HotCalls
import PyProof.InstNe
import HandS.MakeKwOnly
import KE.KTupSum
import HandS.TryMany
import KE.KEqDict
import PyProof.EqKinds
import HandS.RaiseMore
import PySem.Challenge.RW_laidforall_k09_pattern_matches
set_option Elab.async false
set_option linter.all false
set_option maxRecDepth 100000
section S_DxA
set_option Elab.async false
set_option linter.all false
set_option maxRecDepth 100000
namespace Dx
open PySem L2
/-- data: what a value stands for, whatever its address -/
inductive D where
  | non
  | bl (b : Bool)
  | int (i : Int)
  | str (s : Str)
  | lst (xs : List D)
  | fz (xs : List D)
  | tup (xs : List D)
  | kt (xs : List D)
  | dk (ks : List Key) (vs : List D)
  | dt (ks : List (List Key)) (vs : List D)
  | obj (c : Str) (ns : List Str) (vs : List D)
  | own (k : Nat)
  | st (k : Nat) (rows : List (List D))
/-- where the classes of the text stand -/
abbrev CM := Str → Option Addr
/-- H' knows all that H knows -/
def Ex (H H' : Hp) : Prop := ∀ a o, H a = some o → H' a = some o
theorem Ex.refl {H : Hp} : Ex H H := fun _ _ h => h
theorem Ex.trans {H H1 H2 : Hp} (a : Ex H H1) (b : Ex H1 H2) : Ex H H2 := fun x o h => b x o (a x o h)
theorem Ex.nn {H H' : Hp} (e : Ex H H') {p : Addr} (h : H' p = none) : H p = none := by
  cases h1 : H p with
  | none => rfl
  | some o => rw [e p o h1] at h; cases h
theorem Ex.new {H : Hp} {p : Addr} {o : HO} (h : H p = none) : Ex H (upd H p o) := fun a u e => by
  rw [upd_ne (ne_of_none e h)]; exact e
theorem Ex.put {H H' : Hp} {p : Addr} {o : HO} (e : Ex H H') (h : H p = none) : Ex H (upd H' p o) := fun a u ha => by
  rw [upd_ne (ne_of_none ha h)]; exact e a u ha
theorem Ex.both {S H : Hp} {p : Addr} {o : HO} (e : Ex S H) : Ex (upd S p o) (upd H p o) := fun a u ha => by
  by_cases h : a = p
  · subst h; rw [upd_same] at ha ⊢; exact ha
  · rw [upd_ne h] at ha ⊢; exact e a u ha
theorem Ex.rd {H H' : Hp} {a : Addr} {u : HO} (e : Ex H H') (h : Rd H a u) : Rd H' a u := by
  rcases h with h | ⟨o, h⟩
  · exact .inl (e a _ h)
  · exact .inr ⟨o, e a _ h⟩
theorem Ex.l {K : PySem.W.Frag} {H H' : Hp} {a : Addr} {xs : List V} (e : Ex H H') (h : SqL K H a xs) : SqL K H' a xs := by
  rcases h with h | h
  · exact .inl (e.rd h)
  · exact .inr h
theorem Ex.t {K : PySem.W.Frag} {H H' : Hp} {a : Addr} {xs : List V} (e : Ex H H') (h : SqT K H a xs) : SqT K H' a xs := by
  rcases h with h | h
  · exact .inl (e.rd h)
  · exact .inr h
mutual
/-- the value v, at the heap S, stands for the data -/
inductive Rp (K : PySem.W.Frag) (cm : CM) (S : Hp) : V → D → Prop
  | non : Rp K cm S .non .non
  | bl (b : Bool) : Rp K cm S (.bl b) (.bl b)
  | int (i : Int) : Rp K cm S (.int i) (.int i)
  | str (x : Str) : Rp K cm S (.str x) (.str x)
  | lst {a : Addr} {xs : List V} {ds : List D} : S a = some (.lst xs) → RpA K cm S xs ds → Rp K cm S (.ref a) (.lst ds)
  | fz {a : Addr} {xs : List V} {ds : List D} : SqL K S a xs → RpA K cm S xs ds → Rp K cm S (.ref a) (.fz ds)
  | tup {a : Addr} {xs : List V} {ds : List D} : S a = some (.tup xs) → RpA K cm S xs ds → Rp K cm S (.ref a) (.tup ds)
  | kt {a : Addr} {xs : List V} {ds : List D} : SqT K S a xs → RpA K cm S xs ds → Rp K cm S (.ref a) (.kt ds)
  | dk {a : Addr} {w : Obj} {kvs : List (Key × V)} {ks : List Key} {ds : List D} : S a = some (.frz w (.dK kvs)) → ks = kvs.map (·.1) → RpA K cm S (kvs.map (·.2)) ds → Rp K cm S (.ref a) (.dk ks ds)
  | dt {a : Addr} {w : Obj} {kvs : List (List Key × V)} {ks : List (List Key)} {ds : List D} : S a = some (.frz w (.dT kvs)) → ks = kvs.map (·.1) → RpA K cm S (kvs.map (·.2)) ds → Rp K cm S (.ref a) (.dt ks ds)
  | obj {a C dx : Addr} {c : Str} {fs : List (Str × V)} {ns : List Str} {ds : List D} : cm c = some C → S a = some (.ins C dx fs) → ns = fs.map (·.1) → RpA K cm S (fs.map (·.2)) ds → Rp K cm S (.ref a) (.obj c ns ds)
inductive RpA (K : PySem.W.Frag) (cm : CM) (S : Hp) : List V → List D → Prop
  | nil : RpA K cm S [] []
  | cons {v : V} {vs : List V} {d : D} {ds : List D} : Rp K cm S v d → RpA K cm S vs ds → RpA K cm S (v :: vs) (d :: ds)
end
section
variable {K : PySem.W.Frag} {cm : CM} {S S' : Hp}
mutual
theorem Rp.mono (e : Ex S S') : ∀ {v : V} {d : D}, Rp K cm S v d → Rp K cm S' v d
  | _, .non, h => by cases h; exact .non
  | _, .bl _, h => by cases h; exact .bl _
  | _, .int _, h => by cases h; exact .int _
  | _, .str _, h => by cases h; exact .str _
  | _, .lst ds, h => by cases h with | lst q r => exact .lst (e _ _ q) (RpA.mono e r)
  | _, .fz ds, h => by cases h with | fz q r => exact .fz (e.l q) (RpA.mono e r)
  | _, .tup ds, h => by cases h with | tup q r => exact .tup (e _ _ q) (RpA.mono e r)
  | _, .kt ds, h => by cases h with | kt q r => exact .kt (e.t q) (RpA.mono e r)
  | _, .dk _ ds, h => by cases h with | dk q k r => exact .dk (e _ _ q) k (RpA.mono e r)
  | _, .dt _ ds, h => by cases h with | dt q k r => exact .dt (e _ _ q) k (RpA.mono e r)
  | _, .obj _ _ ds, h => by cases h with | obj c q k r => exact .obj c (e _ _ q) k (RpA.mono e r)
theorem RpA.mono (e : Ex S S') : ∀ {vs : List V} {ds : List D}, RpA K cm S vs ds → RpA K cm S' vs ds
  | _, [], h => by cases h; exact .nil
  | _, d :: ds, h => by cases h with | cons a r => exact .cons (Rp.mono e a) (RpA.mono e r)
end
theorem RpA.length : ∀ {vs : List V} {ds : List D}, RpA K cm S vs ds → vs.length = ds.length
  | _, _, .nil => rfl
  | _, _, .cons _ r => by simp [RpA.length r]
theorem RpA.get : ∀ {vs : List V} {ds : List D} {i : Nat} {d : D}, RpA K cm S vs ds → ds[i]? = some d → ∃ v, vs[i]? = some v ∧ Rp K cm S v d
  | _, _, _, _, .nil, e => by simp at e
  | _, _, 0, _, .cons h _, e => by simp at e; subst e; exact ⟨_, by simp, h⟩
  | _, _, i + 1, d, .cons _ r, e => by
    obtain ⟨v, h1, h2⟩ := RpA.get (i := i) (d := d) r (by simpa using e)
    exact ⟨v, by simpa using h1, h2⟩
theorem RpA.getV : ∀ {vs : List V} {ds : List D} {i : Nat} {v : V}, RpA K cm S vs ds → vs[i]? = some v → ∃ d, ds[i]? = some d ∧ Rp K cm S v d
  | _, _, _, _, .nil, e => by simp at e
  | _, _, 0, _, .cons h _, e => by simp at e; subst e; exact ⟨_, by simp, h⟩
  | _, _, i + 1, v, .cons _ r, e => by
    obtain ⟨d, h1, h2⟩ := RpA.getV (i := i) (v := v) r (by simpa using e)
    exact ⟨d, by simpa using h1, h2⟩
theorem RpA.app : ∀ {vs us : List V} {ds es : List D}, RpA K cm S vs ds → RpA K cm S us es → RpA K cm S (vs ++ us) (ds ++ es)
  | _, _, _, _, .nil, s => s
  | _, _, _, _, .cons h r, s => .cons h (RpA.app r s)
theorem RpA.one {v : V} {d : D} (h : Rp K cm S v d) : RpA K cm S [v] [d] := .cons h .nil
theorem RpA.take : ∀ {vs : List V} {ds : List D} (n : Nat), RpA K cm S vs ds → RpA K cm S (vs.take n) (ds.take n)
  | _, _, 0, _ => .nil
  | _, _, _ + 1, .nil => .nil
  | _, _, n + 1, .cons h r => .cons h (RpA.take n r)
theorem RpA.drop : ∀ {vs : List V} {ds : List D} (n : Nat), RpA K cm S vs ds → RpA K cm S (vs.drop n) (ds.drop n)
  | _, _, 0, r => r
  | _, _, _ + 1, .nil => .nil
  | _, _, n + 1, .cons _ r => RpA.drop n r
theorem RpA.set {v : V} {d : D} (h : Rp K cm S v d) : ∀ {vs : List V} {ds : List D} (i : Nat), RpA K cm S vs ds → RpA K cm S (vs.set i v) (ds.set i d)
  | _, _, _, .nil => .nil
  | _, _, 0, .cons _ r => .cons h r
  | _, _, i + 1, .cons q r => .cons q (RpA.set h i r)
theorem RpA.reverse : ∀ {vs : List V} {ds : List D}, RpA K cm S vs ds → RpA K cm S vs.reverse ds.reverse
  | _, _, .nil => .nil
  | _, _, .cons h r => by rw [List.reverse_cons, List.reverse_cons]; exact (RpA.reverse r).app (.one h)
end
/-- the content of a mutable object stands for the data, its parts at S -/
inductive RpO (K : PySem.W.Frag) (cm : CM) (S : Hp) : HO → D → Prop
  | lst {xs : List V} {ds : List D} : RpA K cm S xs ds → RpO K cm S (.lst xs) (.lst ds)
  | dk {kvs : List (Key × V)} {ks : List Key} {ds : List D} : ks = kvs.map (·.1) → RpA K cm S (kvs.map (·.2)) ds → RpO K cm S (.dK kvs) (.dk ks ds)
  | dt {kvs : List (List Key × V)} {ks : List (List Key)} {ds : List D} : ks = kvs.map (·.1) → RpA K cm S (kvs.map (·.2)) ds → RpO K cm S (.dT kvs) (.dt ks ds)
  | obj {C dx : Addr} {c : Str} {fs : List (Str × V)} {ns : List Str} {ds : List D} : cm c = some C → ns = fs.map (·.1) → RpA K cm S (fs.map (·.2)) ds → RpO K cm S (.ins C dx fs) (.obj c ns ds)
theorem RpO.mono {K : PySem.W.Frag} {cm : CM} {S S' : Hp} (e : Ex S S') {o : HO} {d : D} (h : RpO K cm S o d) : RpO K cm S' o d := by
  cases h with
  | lst r => exact .lst (r.mono e)
  | dk k r => exact .dk k (r.mono e)
  | dt k r => exact .dt k (r.mono e)
  | obj c k r => exact .obj c k (r.mono e)
def isDct : D → Bool
  | .dk _ _ => true
  | .dt _ _ => true
  | _ => false
theorem RpO.pub {K : PySem.W.Frag} {cm : CM} {S : Hp} {o : HO} {d : D} {p : Addr} (h : RpO K cm S o d) (nd : isDct d = false) (hp : S p = o) : Rp K cm S (.ref p) d := by
  cases h with
  | lst r => exact .lst hp r
  | dk k r => cases nd
  | dt k r => cases nd
  | obj c k r => exact .obj c hp k r
theorem RpO.pubD {K : PySem.W.Frag} {cm : CM} {S : Hp} {o : HO} {d : D} {p : Addr} {w : Obj} (h : RpO K cm S o d) (nd : isDct d = true) (hp : S p = some (.frz w o)) : Rp K cm S (.ref p) d ∧ Mut (some o) := by
  cases h with
  | lst r => cases nd
  | dk k r => exact ⟨.dk hp k r, trivial⟩
  | dt k r => exact ⟨.dt hp k r, trivial⟩
  | obj c k r => cases nd
theorem RpO.mut {K : PySem.W.Frag} {cm : CM} {S : Hp} {o : HO} {d : D} (h : RpO K cm S o d) : Mut (some o) := by
  cases h <;> trivial
/-- not there, or a tuple -/
def Old (o : Option HO) : Prop := o = none ∨ ∃ xs, o = some (.tup xs)
theorem Old.back {H H' : Hp} (e : Ex H H') {a : Addr} (h : Old (H' a)) : Old (H a) := by
  cases q : H a with
  | none => exact .inl rfl
  | some u =>
    rw [e a u q] at h
    rcases h with h | ⟨xs, h⟩
    · cases h
    · cases h; exact .inr ⟨xs, rfl⟩
theorem Old.not {H : Hp} {a : Addr} {o : HO} (h : Old (H a)) (q : H a = some o) : ∃ xs, o = .tup xs := by
  rw [q] at h
  rcases h with h | ⟨xs, h⟩
  · cases h
  · cases h; exact ⟨xs, rfl⟩
/-- S is the part of H that stays; from (S, H) to (S', H') nothing known has changed -/
structure Fwd (S H S' H' : Hp) : Prop where
  s : Ex S S'
  h : Ex H H'
  sub : Ex S' H'
  new : ∀ a o, S' a = some o → S a = none → Old (H a)
theorem Fwd.refl {S H : Hp} (e : Ex S H) : Fwd S H S H := ⟨Ex.refl, Ex.refl, e, fun a o h n => by rw [n] at h; cases h⟩
theorem Fwd.trans {S H S1 H1 S2 H2 : Hp} (a : Fwd S H S1 H1) (b : Fwd S1 H1 S2 H2) : Fwd S H S2 H2 :=
  ⟨a.s.trans b.s, a.h.trans b.h, b.sub, fun p o h n => by
    cases e : S1 p with
    | some u => exact a.new p u e n
    | none => exact (b.new p o h e).back a.h⟩
theorem Fwd.both {S H : Hp} {p : Addr} {o : HO} (e : Ex S H) (n : H p = none) : Fwd S H (upd S p o) (upd H p o) :=
  ⟨Ex.new (e.nn n), Ex.new n, e.both, fun a u h m => by
    by_cases ha : a = p
    · subst ha; exact .inl n
    · rw [upd_ne ha, m] at h; cases h⟩
theorem Fwd.heap {S H : Hp} {p : Addr} {o : HO} (e : Ex S H) (n : H p = none) : Fwd S H S (upd H p o) :=
  ⟨Ex.refl, Ex.new n, e.put (e.nn n), fun a u h m => by rw [m] at h; cases h⟩
/-- a new object known to H' alone becomes one that stays -/
theorem Fwd.pub {S H S' H' : Hp} {p : Addr} {o : HO} (f : Fwd S H S' H') (n : H p = none) (ns : S' p = none) (h : H' p = some o) : Fwd S H (upd S' p o) H' :=
  ⟨f.s.trans (Ex.new ns), f.h, fun a u ha => by
    by_cases hh : a = p
    · subst hh; rw [upd_same] at ha; rw [h]; exact ha
    · rw [upd_ne hh] at ha; exact f.sub a u ha, fun a u ha m => by
    by_cases hh : a = p
    · subst hh; exact .inl n
    · rw [upd_ne hh] at ha; exact f.new a u ha m⟩
inductive Res (α : Type) where
  | ok (a : α)
  | err (c : Str) (ns : List Str) (vs : List D)
  | bad
@[inline] def Res.bind {α β : Type} : Res α → (α → Res β) → Res β
  | .ok a, k => k a
  | .err c ns vs, _ => .err c ns vs
  | .bad, _ => .bad
instance : Monad Res where
  pure := Res.ok
  bind := Res.bind
abbrev Rho := List (Option D)
/-- the end of a statement -/
inductive SR where
  | nx (r : Rho)
  | rt (d : D)
  | bk (r : Rho)
  | ct (r : Rho)
  | er (r : Rho) (c : Str) (ns : List Str) (vs : List D)
  | bad
inductive Ow where
  | v | o | b | w
  | s (pre : List Addr)
  | x (a C dd : Addr)
  | i (a : Addr)
def isO : Ow → Prop
  | .o => True
  | .i _ => True
  | _ => False
structure Cf where
  K : PySem.W.Frag
  cm : CM
  W : WX
  ge : Option (List Ow)
  rm : Bool
/-- a value, or a mutable object read at H whose parts stay -/
def RpB (K : PySem.W.Frag) (cm : CM) (S H : Hp) (v : V) (d : D) : Prop :=
  Rp K cm S v d ∨ ∃ p ho, v = .ref p ∧ H p = some ho ∧ RpO K cm S ho d
section
variable {K : PySem.W.Frag} {cm : CM} {S S' H H' : Hp} {v : V} {d : D}
theorem RpB.mono (h : RpB K cm S H v d) (e : Ex S S') (e' : Ex H H') : RpB K cm S' H' v d := by
  rcases h with h | ⟨p, ho, h1, h2, h3⟩
  · exact .inl (h.mono e)
  · exact .inr ⟨p, ho, h1, e' _ _ h2, h3.mono e⟩
theorem RpB.list {ds : List D} (h : RpB K cm S H v (.lst ds)) (e : Ex S H) : ∃ p xs, v = .ref p ∧ H p = some (.lst xs) ∧ RpA K cm S xs ds := by
  rcases h with h | ⟨p, ho, h1, h2, h3⟩
  · cases h with | lst q r => exact ⟨_, _, rfl, e _ _ q, r⟩
  · cases h3 with | lst r => exact ⟨p, _, h1, h2, r⟩
theorem RpB.int {i : Int} (h : RpB K cm S H v (.int i)) : v = .int i := by
  rcases h with h | ⟨p, ho, h1, h2, h3⟩
  · cases h; rfl
  · cases h3
theorem RpB.bl {b : Bool} (h : RpB K cm S H v (.bl b)) : v = .bl b := by
  rcases h with h | ⟨p, ho, h1, h2, h3⟩
  · cases h; rfl
  · cases h3
theorem RpB.non (h : RpB K cm S H v .non) : v = .non := by
  rcases h with h | ⟨p, ho, h1, h2, h3⟩
  · cases h; rfl
  · cases h3
theorem RpB.str {z : Str} (h : RpB K cm S H v (.str z)) : v = .str z := by
  rcases h with h | ⟨p, ho, h1, h2, h3⟩
  · cases h; rfl
  · cases h3
theorem RpB.tup {ds : List D} (h : RpB K cm S H v (.tup ds)) (e : Ex S H) : ∃ p xs, v = .ref p ∧ SqT K H p xs ∧ RpA K cm S xs ds ∧ S p = some (.tup xs) := by
  rcases h with h | ⟨p, ho, h1, h2, h3⟩
  · cases h with | tup q r => exact ⟨_, _, rfl, .inl (.inl (e _ _ q)), r, q⟩
  · cases h3
theorem RpB.kt {ds : List D} (h : RpB K cm S H v (.kt ds)) (e : Ex S H) : ∃ p xs, v = .ref p ∧ SqT K H p xs ∧ RpA K cm S xs ds ∧ SqT K S p xs := by
  rcases h with h | ⟨p, ho, h1, h2, h3⟩
  · cases h with | kt q r => exact ⟨_, _, rfl, e.t q, r, q⟩
  · cases h3
theorem RpB.fz {ds : List D} (h : RpB K cm S H v (.fz ds)) (e : Ex S H) : ∃ p xs, v = .ref p ∧ SqL K H p xs ∧ RpA K cm S xs ds := by
  rcases h with h | ⟨p, ho, h1, h2, h3⟩
  · cases h with | fz q r => exact ⟨_, _, rfl, e.l q, r⟩
  · cases h3
theorem RpB.dk {ks : List Key} {ds : List D} (h : RpB K cm S H v (.dk ks ds)) (e : Ex S H) : ∃ p kvs, v = .ref p ∧ Rd H p (.dK kvs) ∧ ks = kvs.map (·.1) ∧ RpA K cm S (kvs.map (·.2)) ds := by
  rcases h with h | ⟨p, ho, h1, h2, h3⟩
  · cases h with | dk q k r => exact ⟨_, _, rfl, .inr ⟨_, e _ _ q⟩, k, r⟩
  · cases h3 with | dk k r => exact ⟨p, _, h1, .inl h2, k, r⟩
theorem RpB.dt {ks : List (List Key)} {ds : List D} (h : RpB K cm S H v (.dt ks ds)) (e : Ex S H) : ∃ p kvs, v = .ref p ∧ Rd H p (.dT kvs) ∧ ks = kvs.map (·.1) ∧ RpA K cm S (kvs.map (·.2)) ds := by
  rcases h with h | ⟨p, ho, h1, h2, h3⟩
  · cases h with | dt q k r => exact ⟨_, _, rfl, .inr ⟨_, e _ _ q⟩, k, r⟩
  · cases h3 with | dt k r => exact ⟨p, _, h1, .inl h2, k, r⟩
theorem RpB.obj {n : Str} {ns : List Str} {ds : List D} (h : RpB K cm S H v (.obj n ns ds)) (e : Ex S H) : ∃ p C dx fs, v = .ref p ∧ cm n = some C ∧ H p = some (.ins C dx fs) ∧ ns = fs.map (·.1) ∧ RpA K cm S (fs.map (·.2)) ds := by
  rcases h with h | ⟨p, ho, h1, h2, h3⟩
  · cases h with | obj c q k r => exact ⟨_, _, _, _, rfl, c, e _ _ q, k, r⟩
  · cases h3 with | obj c k r => exact ⟨p, _, _, _, h1, c, h2, k, r⟩
end
/-- a value, or one of the own lists at the places A -/
def RmV (K : PySem.W.Frag) (cm : CM) (A : List Addr) (S : Hp) (v : V) (d : D) : Prop := Rp K cm S v d ∨ ∃ k a, d = .own k ∧ A[k]? = some a ∧ v = .ref a
def RmA (K : PySem.W.Frag) (cm : CM) (A : List Addr) (S : Hp) (vs : List V) (ds : List D) : Prop := vs.length = ds.length ∧ ∀ (i : Nat) v d, vs[i]? = some v → ds[i]? = some d → RmV K cm A S v d
def SlotOk (c : Cf) (H0 S H : Hp) : Ow → V → D → Prop
  | .v, v, d => Rp c.K c.cm S v d
  | .o, v, d => ∃ p ho, v = .ref p ∧ H p = some ho ∧ S p = none ∧ H0 p = none ∧ RpO c.K c.cm S ho d
  | .i a, v, d => v = .ref a ∧ ∃ p ho, v = .ref p ∧ H p = some ho ∧ S p = none ∧ H0 p = none ∧ RpO c.K c.cm S ho d
  | .b, v, d => RpB c.K c.cm S H0 v d
  | .s _, v, d => ∃ k M, d = .st k M
  | .w, v, d => ∃ k, d = .own k
  | .x a C dd, v, d => v = .ref a ∧ ∃ n ns ds fs, d = .obj n ns ds ∧ c.cm n = some C ∧ S dd = some (.xd fs) ∧ ns = fs.map (·.1) ∧ RpA c.K c.cm S (fs.map (·.2)) ds
abbrev kd (G : List Ow) (i : Nat) : Ow := G.getD i .v
/-- the own lists that stand in each other, at the places A -/
structure StoOk (K : PySem.W.Frag) (cm : CM) (H0 : Hp) (G : List Ow) (S H : Hp) (σ : St) (r : Rho) (A : List Addr) : Prop where
  nod : A.Nodup
  out : ∀ a ∈ A, S a = none ∧ H0 a = none ∧ ∃ xs, H a = some (.lst xs)
  own : ∀ i d p, r[i]? = some (some d) → isO (kd G i) → σ[i]? = some (some (.ref p)) → p ∉ A
  st : ∀ i k M P, kd G i = .s P → r[i]? = some (some (.st k M)) → (P <+: A ∧ A.length = M.length) ∧ (∃ a, A[k]? = some a ∧ σ[i]? = some (some (.ref a))) ∧ ∀ (n : Nat) row, M[n]? = some row → ∃ a xs, A[n]? = some a ∧ H a = some (.lst xs) ∧ RmA K cm A S xs row
  al : ∀ i k, kd G i = .w → r[i]? = some (some (.own k)) → ∃ a, A[k]? = some a ∧ σ[i]? = some (some (.ref a))
theorem RmA.mono {K : PySem.W.Frag} {cm : CM} {A : List Addr} {S S' : Hp} {vs : List V} {ds : List D} (h : RmA K cm A S vs ds) (e : Ex S S') : RmA K cm A S' vs ds :=
  ⟨h.1, fun i v d hv hd => (h.2 i v d hv hd).imp (fun z => z.mono e) id⟩
theorem StoOk.sub {K : PySem.W.Frag} {cm : CM} {H0 S H S' H' : Hp} {G G' : List Ow} {σ σ' : St} {r r' : Rho} {A : List Addr} (h : StoOk K cm H0 G S H σ r A) (hS : ∀ a ∈ A, S' a = none) (hH : ∀ a ∈ A, H' a = H a) (eS : Ex S S')
    (ho : ∀ i d p, r'[i]? = some (some d) → isO (kd G' i) → σ'[i]? = some (some (.ref p)) → p ∉ A)
    (hs : ∀ i d, (∃ P, kd G' i = .s P) ∨ kd G' i = .w → r'[i]? = some (some d) → kd G i = kd G' i ∧ r[i]? = some (some d) ∧ σ'[i]? = σ[i]?) : StoOk K cm H0 G' S' H' σ' r' A where
  nod := h.nod
  out := fun a ha => by
    obtain ⟨_, h2, h3⟩ := h.out a ha
    exact ⟨hS a ha, h2, by rw [hH a ha]; exact h3⟩
  own := ho
  st := fun i k M P hi hr => by
    obtain ⟨a1, a2, a3⟩ := hs i _ (.inl ⟨P, hi⟩) hr
    obtain ⟨b1, b2, b3⟩ := h.st i k M P (a1.trans hi) a2
    refine ⟨b1, by rw [a3]; exact b2, fun n row hn => ?_⟩
    obtain ⟨a, xs, c1, c2, c3⟩ := b3 n row hn
    exact ⟨a, xs, c1, by rw [hH a (List.mem_of_getElem? c1)]; exact c2, c3.mono eS⟩
  al := fun i k hi hr => by
    obtain ⟨a1, a2, a3⟩ := hs i _ (.inr hi) hr
    rw [a3]
    exact h.al i k (a1.trans hi) a2
theorem StoOk.go {K : PySem.W.Frag} {cm : CM} {H0 S H S' H' : Hp} {G : List Ow} {σ : St} {r : Rho} {A : List Addr} (h : StoOk K cm H0 G S H σ r A) (f : Fwd S H S' H') : StoOk K cm H0 G S' H' σ r A :=
  h.sub (fun a ha => by
    obtain ⟨h1, _, xs, h3⟩ := h.out a ha
    cases e : S' a with
    | none => rfl
    | some u => obtain ⟨ys, z⟩ := (f.new a u e h1).not h3; cases z) (fun a ha => by
    obtain ⟨_, _, xs, h3⟩ := h.out a ha
    rw [h3]; exact f.h a _ h3) f.s h.own fun i d hi hr => ⟨rfl, hr, rfl⟩
/-- no such lists -/
theorem StoOk.nil {K : PySem.W.Frag} {cm : CM} {H0 S H : Hp} {G : List Ow} {σ : St} {r : Rho} (h : ∀ i d, r[i]? = some (some d) → (∀ P, kd G i ≠ .s P) ∧ kd G i ≠ .w) : StoOk K cm H0 G S H σ r [] where
  nod := List.nodup_nil
  out := fun a ha => by cases ha
  own := fun i d p _ _ _ hp => by cases hp
  st := fun i k M P hi hr => absurd hi ((h i _ hr).1 P)
  al := fun i k hi hr => absurd hi (h i _ hr).2
structure EnvOk (c : Cf) (S0 H0 : Hp) (G : List Ow) (S H : Hp) (σ : St) (r : Rho) : Prop where
  fwd : Fwd S0 H0 S H
  len : σ.length = r.length
  slot : ∀ i d, r[i]? = some (some d) → ∃ v, σ[i]? = some (some v) ∧ SlotOk c H0 S H (kd G i) v d
  sep : ∀ i j d e p, r[i]? = some (some d) → r[j]? = some (some e) → isO (kd G i) → isO (kd G j) → σ[i]? = some (some (.ref p)) → σ[j]? = some (some (.ref p)) → i = j
  sto : ∃ A, StoOk c.K c.cm H0 G S H σ r A
section
variable {c : Cf} {S0 H0 S H S' H' : Hp} {G : List Ow} {σ : St} {r : Rho}
theorem SlotOk.o_of {k : Ow} {v : V} {d : D} (h : SlotOk c H0 S H k v d) (q : isO k) : ∃ p ho, v = .ref p ∧ H p = some ho ∧ S p = none ∧ H0 p = none ∧ RpO c.K c.cm S ho d := by
  cases k with
  | o => exact h
  | i a => exact h.2
  | _ => cases q
theorem SlotOk.mono {k : Ow} {v : V} {d : D} (h : SlotOk c H0 S H k v d) (f : Fwd S H S' H') : SlotOk c H0 S' H' k v d := by
  cases k with
  | v => exact Rp.mono f.s h
  | o =>
    obtain ⟨p, ho, h1, h2, h3, h4, h5⟩ := h
    refine ⟨p, ho, h1, f.h p _ h2, ?_, h4, h5.mono f.s⟩
    cases e : S' p with
    | none => rfl
    | some u => obtain ⟨ys, z⟩ := (f.new p u e h3).not h2; subst z; cases h5
  | i a =>
    obtain ⟨h0, p, ho, h1, h2, h3, h4, h5⟩ := h
    refine ⟨h0, p, ho, h1, f.h p _ h2, ?_, h4, h5.mono f.s⟩
    cases e : S' p with
    | none => rfl
    | some u => obtain ⟨ys, z⟩ := (f.new p u e h3).not h2; subst z; cases h5
  | b => exact RpB.mono h f.s Ex.refl
  | s P => exact h
  | w => exact h
  | x a C dd =>
    obtain ⟨h1, n, ns, ds, fs, h2, h3, h4, h5, h6⟩ := h
    exact ⟨h1, n, ns, ds, fs, h2, h3, f.s _ _ h4, h5, h6.mono f.s⟩
theorem EnvOk.go (e : EnvOk c S0 H0 G S H σ r) (f : Fwd S H S' H') : EnvOk c S0 H0 G S' H' σ r :=
  ⟨e.fwd.trans f, e.len, fun i d h => let ⟨v, h1, h2⟩ := e.slot i d h; ⟨v, h1, h2.mono f⟩, e.sep, let ⟨A, h⟩ := e.sto; ⟨A, h.go f⟩⟩
theorem EnvOk.ex (e : EnvOk c S0 H0 G S H σ r) : Ex S H := e.fwd.sub
theorem kd_set_self (G : List Ow) (i : Nat) : kd (G.set i .v) i = .v := by
  show (G.set i .v).getD i .v = .v
  rw [List.getD_eq_getElem?_getD, List.getElem?_set]
  split
  · split <;> rfl
  · rename_i h; exact absurd rfl h
theorem kd_set_ne {G : List Ow} {i j : Nat} {k : Ow} (h : i ≠ j) : kd (G.set i k) j = kd G j := by
  show (G.set i k).getD j .v = G.getD j .v
  rw [List.getD_eq_getElem?_getD, List.getD_eq_getElem?_getD, List.getElem?_set_ne h]
theorem kd_set_o {G : List Ow} {i : Nat} {k : Ow} (h : i < G.length) : kd (G.set i k) i = k := by
  show (G.set i k).getD i .v = k
  rw [List.getD_eq_getElem?_getD, List.getElem?_set_self h]; rfl
theorem set_some {α : Type} {l : List (Option α)} {i j : Nat} {a : Option α} {b : α} (h : (l.set i a)[j]? = some (some b)) : (i = j ∧ a = some b ∧ i < l.length) ∨ (i ≠ j ∧ l[j]? = some (some b)) := by
  by_cases e : i = j
  · subst e
    rw [List.getElem?_set] at h
    rw [if_pos rfl] at h
    split at h
    · rename_i hl; exact .inl ⟨rfl, Option.some.inj h, hl⟩
    · cases h
  · rw [List.getElem?_set_ne e] at h
    exact .inr ⟨e, h⟩
/-- a slot gets a value -/
theorem EnvOk.setV (e : EnvOk c S0 H0 G S H σ r) {v : V} {d : D} (i : Nat) (h : Rp c.K c.cm S v d) : EnvOk c S0 H0 (G.set i .v) S H (σ.set i (some v)) (r.set i (some d)) := by
  refine ⟨e.fwd, by simp [e.len], fun j b hb => ?_, fun j k b b' p hj hk kj kk sj sk => ?_, let ⟨A, hA⟩ := e.sto; ⟨A, hA.sub (fun a ha => (hA.out a ha).1) (fun _ _ => rfl) Ex.refl (fun j b q hj kj sj => ?_) fun j b kj hj => ?_⟩⟩
  · rcases set_some hb with ⟨rfl, ea, hl⟩ | ⟨ne, hb⟩
    · cases ea
      exact ⟨v, by rw [List.getElem?_set_self (by rw [e.len]; exact hl)], by rw [kd_set_self]; exact h⟩
    · obtain ⟨u, h1, h2⟩ := e.slot j b hb
      exact ⟨u, by rw [List.getElem?_set_ne ne]; exact h1, by rw [kd_set_ne ne]; exact h2⟩
  · have nj : i ≠ j := fun z => by subst z; rw [kd_set_self] at kj; cases kj
    have nk : i ≠ k := fun z => by subst z; rw [kd_set_self] at kk; cases kk
    rw [List.getElem?_set_ne nj] at hj sj
    rw [List.getElem?_set_ne nk] at hk sk
    rw [kd_set_ne nj] at kj
    rw [kd_set_ne nk] at kk
    exact e.sep j k b b' p hj hk kj kk sj sk
  · have nj : i ≠ j := fun z => by subst z; rw [kd_set_self] at kj; cases kj
    rw [List.getElem?_set_ne nj] at hj sj
    rw [kd_set_ne nj] at kj
    exact hA.own j b q hj kj sj
  · have nj : i ≠ j := fun z => by subst z; rw [kd_set_self] at kj; rcases kj with ⟨_, kj⟩ | kj <;> cases kj
    rw [List.getElem?_set_ne nj] at hj
    rw [kd_set_ne nj, List.getElem?_set_ne nj]
    exact ⟨rfl, hj, rfl⟩
/-- a slot gets a new mutable object -/
theorem EnvOk.setO (e : EnvOk c S0 H0 G S H σ r) (f : Fwd S H S' H') {p : Addr} {ho : HO} {d : D} (i : Nat) (hi : i < G.length) (n : H p = none) (ns : S' p = none) (hp : H' p = some ho) (h : RpO c.K c.cm S' ho d) :
    EnvOk c S0 H0 (G.set i .o) S' H' (σ.set i (some (.ref p))) (r.set i (some d)) := by
  have e' := e.go f
  have fresh : ∀ j b, r[j]? = some (some b) → isO (kd G j) → σ[j]? ≠ some (some (.ref p)) := fun j b hb kj sj => by
    obtain ⟨u, h1, h2⟩ := e.slot j b hb
    obtain ⟨q, ho', z1, z2, _⟩ := h2.o_of kj
    rw [sj] at h1; cases h1; cases z1
    rw [n] at z2; cases z2
  refine ⟨e'.fwd, by simp [e.len], fun j b hb => ?_, fun j k b b' q hj hk kj kk sj sk => ?_, let ⟨A, hA⟩ := e.sto; ⟨A, (hA.go f).sub (fun a ha => ((hA.go f).out a ha).1) (fun _ _ => rfl) Ex.refl (fun j b q hj kj sj => ?_) fun j b kj hj => ?_⟩⟩
  · rcases set_some hb with ⟨rfl, ea, hl⟩ | ⟨ne, hb⟩
    · cases ea
      refine ⟨.ref p, by rw [List.getElem?_set_self (by rw [e.len]; exact hl)], ?_⟩
      rw [kd_set_o hi]
      exact ⟨p, ho, rfl, hp, ns, e.fwd.h.nn n, h⟩
    · obtain ⟨u, h1, h2⟩ := e'.slot j b hb
      exact ⟨u, by rw [List.getElem?_set_ne ne]; exact h1, by rw [kd_set_ne ne]; exact h2⟩
  · by_cases nj : i = j
    · by_cases nk : i = k
      · rw [← nj, nk]
      · subst nj
        exfalso
        rcases set_some sj with ⟨_, ea, _⟩ | ⟨ne, _⟩
        · cases ea
          rw [List.getElem?_set_ne nk] at hk sk
          rw [kd_set_ne nk] at kk
          exact fresh k _ hk kk sk
        · exact ne rfl
    · by_cases nk : i = k
      · subst nk
        exfalso
        rcases set_some sk with ⟨_, ea, _⟩ | ⟨ne, _⟩
        · cases ea
          rw [List.getElem?_set_ne nj] at hj sj
          rw [kd_set_ne nj] at kj
          exact fresh j _ hj kj sj
        · exact ne rfl
      · rw [List.getElem?_set_ne nj] at hj sj
        rw [List.getElem?_set_ne nk] at hk sk
        rw [kd_set_ne nj] at kj
        rw [kd_set_ne nk] at kk
        exact e.sep j k b b' q hj hk kj kk sj sk
  · rcases set_some sj with ⟨_, ea, _⟩ | ⟨nj, sj⟩
    · cases ea
      intro ha
      obtain ⟨_, _, xs, h3⟩ := hA.out p ha
      rw [n] at h3; cases h3
    · rw [List.getElem?_set_ne nj] at hj
      rw [kd_set_ne nj] at kj
      exact hA.own j b q hj kj sj
  · have nj : i ≠ j := fun z => by subst z; rw [kd_set_o hi] at kj; rcases kj with ⟨_, kj⟩ | kj <;> cases kj
    rw [List.getElem?_set_ne nj] at hj
    rw [kd_set_ne nj, List.getElem?_set_ne nj]
    exact ⟨rfl, hj, rfl⟩
/-- the own object in slot i: its place -/
theorem EnvOk.ownI (e : EnvOk c S0 H0 G S H σ r) {i : Nat} {d : D} (k : isO (kd G i)) (h : r[i]? = some (some d)) : ∃ p ho, σ[i]? = some (some (.ref p)) ∧ H p = some ho ∧ S p = none ∧ H0 p = none ∧ RpO c.K c.cm S ho d := by
  obtain ⟨v, h1, h2⟩ := e.slot i d h
  obtain ⟨p, ho, rfl, h3⟩ := h2.o_of k
  exact ⟨p, ho, h1, h3⟩
/-- the own object in slot i is changed -/
theorem EnvOk.mutI (e : EnvOk c S0 H0 G S H σ r) {i : Nat} {d d' : D} {p : Addr} {ho' : HO} (k : isO (kd G i)) (h : r[i]? = some (some d)) (hs : σ[i]? = some (some (.ref p))) (h' : RpO c.K c.cm S ho' d') :
    EnvOk c S0 H0 G S (upd H p ho') σ (r.set i (some d')) := by
  obtain ⟨q, ho, s1, s2, s3, s4, s5⟩ := e.ownI k h
  rw [hs] at s1; cases s1
  have hf : Fwd S0 H0 S (upd H p ho') := ⟨e.fwd.s, e.fwd.h.put s4, e.fwd.sub.put s3, e.fwd.new⟩
  refine ⟨hf, by simp [e.len], fun j b hb => ?_, fun j l b b' q hj hk kj kk sj sk => ?_, let ⟨A, hA⟩ := e.sto; ⟨A, hA.sub (fun a ha => (hA.out a ha).1) (fun a ha => upd_ne fun z => hA.own i d p h k hs (z ▸ ha)) Ex.refl (fun j b q hj kj sj => ?_) fun j b kj hj => ?_⟩⟩
  · rcases set_some hb with ⟨rfl, ea, hl⟩ | ⟨ne, hb⟩
    · cases ea
      refine ⟨.ref p, hs, ?_⟩
      cases kk : kd G i with
      | o => exact ⟨p, ho', rfl, upd_same, s3, s4, h'⟩
      | i a =>
        obtain ⟨u, h1, h2⟩ := e.slot i d h
        rw [kk] at h2
        rw [hs] at h1; cases h1
        exact ⟨h2.1, p, ho', rfl, upd_same, s3, s4, h'⟩
      | _ => rw [kk] at k; cases k
    · obtain ⟨u, h1, h2⟩ := e.slot j b hb
      refine ⟨u, h1, ?_⟩
      cases kj : kd G j with
      | v => rw [kj] at h2; exact h2
      | b => rw [kj] at h2; exact h2
      | s P => rw [kj] at h2; exact h2
      | w => rw [kj] at h2; exact h2
      | x a C dd => rw [kj] at h2; exact h2
      | o =>
        rw [kj] at h2
        obtain ⟨q, hq, z1, z2, z3, z4, z5⟩ := h2
        subst z1
        have : q ≠ p := fun z => by subst z; exact ne (e.sep i j d b q h hb k (by rw [kj]; trivial) hs h1)
        exact ⟨q, hq, rfl, by rw [upd_ne this]; exact z2, z3, z4, z5⟩
      | i a =>
        rw [kj] at h2
        obtain ⟨z0, q, hq, z1, z2, z3, z4, z5⟩ := h2
        subst z1
        have : q ≠ p := fun z => by subst z; exact ne (e.sep i j d b q h hb k (by rw [kj]; trivial) hs h1)
        exact ⟨z0, q, hq, rfl, by rw [upd_ne this]; exact z2, z3, z4, z5⟩
  · have un : ∀ m b, (r.set i (some d'))[m]? = some (some b) → ∃ b', r[m]? = some (some b') := fun m b hm => by
      rcases set_some hm with ⟨rfl, _, _⟩ | ⟨_, hm⟩
      · exact ⟨d, h⟩
      · exact ⟨b, hm⟩
    obtain ⟨b1, hj⟩ := un j b hj
    obtain ⟨b2, hk⟩ := un l b' hk
    exact e.sep j l b1 b2 q hj hk kj kk sj sk
  · rcases set_some hj with ⟨nj, _, _⟩ | ⟨_, hj⟩
    · subst nj
      exact hA.own i d q h kj sj
    · exact hA.own j b q hj kj sj
  · rcases set_some hj with ⟨nj, _, _⟩ | ⟨_, hj⟩
    · subst nj
      rcases kj with ⟨_, kj⟩ | kj <;> (rw [kj] at k; cases k)
    · exact ⟨rfl, hj, rfl⟩
theorem isO_o {k : Ow} (h : k = .o) : isO k := by rw [h]; trivial
theorem EnvOk.own (e : EnvOk c S0 H0 G S H σ r) {i : Nat} {d : D} (k : kd G i = .o) (h : r[i]? = some (some d)) : ∃ p ho, σ[i]? = some (some (.ref p)) ∧ H p = some ho ∧ S p = none ∧ H0 p = none ∧ RpO c.K c.cm S ho d := e.ownI (isO_o k) h
theorem EnvOk.mut (e : EnvOk c S0 H0 G S H σ r) {i : Nat} {d d' : D} {p : Addr} {ho' : HO} (k : kd G i = .o) (h : r[i]? = some (some d)) (hs : σ[i]? = some (some (.ref p))) (h' : RpO c.K c.cm S ho' d') :
    EnvOk c S0 H0 G S (upd H p ho') σ (r.set i (some d')) := e.mutI (isO_o k) h hs h'
theorem StoOk.un {A : List Addr} (hA : StoOk c.K c.cm H0 G S H σ r A) (i : Nat) (hk : kd G i = .o ∨ kd G i = .v) (hS : ∀ a ∈ A, S' a = none) (eS : Ex S S') : StoOk c.K c.cm H0 (G.set i .v) S' H σ r A :=
  hA.sub hS (fun _ _ => rfl) eS (fun j b q hj kj sj => by
    have nj : i ≠ j := fun z => by subst z; rw [kd_set_self] at kj; cases kj
    rw [kd_set_ne nj] at kj
    exact hA.own j b q hj kj sj) fun j b kj hj => by
    have nj : i ≠ j := fun z => by subst z; rw [kd_set_self] at kj; rcases kj with ⟨_, kj⟩ | kj <;> cases kj
    rw [kd_set_ne nj]
    exact ⟨rfl, hj, rfl⟩
theorem EnvOk.sto_un (e : EnvOk c S0 H0 G S H σ r) (i : Nat) (hk : kd G i = .o ∨ kd G i = .v) : ∃ A, StoOk c.K c.cm H0 (G.set i .v) S H σ r A :=
  let ⟨A, hA⟩ := e.sto
  ⟨A, hA.un i hk (fun a ha => (hA.out a ha).1) Ex.refl⟩
/-- the own object in slot i becomes a value, as ho2 -/
theorem EnvOk.pubG (e : EnvOk c S0 H0 G S H σ r) (i : Nat) (k : kd G i = .o) {d : D} (h : r[i]? = some (some d)) {p : Addr} {ho ho2 : HO} (s1 : σ[i]? = some (some (.ref p))) (s2 : H p = some ho) (s3 : S p = none) (s4 : H0 p = none) (hrp : Rp c.K c.cm (upd S p ho2) (.ref p) d) :
    EnvOk c S0 H0 (G.set i .v) (upd S p ho2) (upd H p ho2) σ r := by
  have hk : kd G i = .o ∨ kd G i = .v := .inl k
  have ex : Ex S (upd S p ho2) := Ex.new s3
  refine ⟨⟨e.fwd.s.trans ex, e.fwd.h.put s4, e.fwd.sub.both, fun a u ha m => ?_⟩, e.len, fun j b hb => ?_, fun j l b b' q hj hk kj kk sj sk => ?_, let ⟨A, hA⟩ := e.sto; ⟨A, ?_⟩⟩
  · by_cases hh : a = p
    · subst hh; exact .inl s4
    · rw [upd_ne hh] at ha; exact e.fwd.new a u ha m
  · by_cases ne : i = j
    · subst ne
      rw [h] at hb; cases hb
      refine ⟨.ref p, s1, ?_⟩
      rw [kd_set_self]
      exact hrp
    · obtain ⟨u, h1, h2⟩ := e.slot j b hb
      refine ⟨u, h1, ?_⟩
      rw [kd_set_ne ne]
      cases kj : kd G j with
      | v => rw [kj] at h2; exact Rp.mono ex h2
      | b => rw [kj] at h2; exact RpB.mono h2 ex Ex.refl
      | s P => rw [kj] at h2; exact h2
      | w => rw [kj] at h2; exact h2
      | x a C dd =>
        rw [kj] at h2
        obtain ⟨y1, n, ns, ds, fs, y2, y3, y4, y5, y6⟩ := h2
        exact ⟨y1, n, ns, ds, fs, y2, y3, ex _ _ y4, y5, y6.mono ex⟩
      | o =>
        rw [kj] at h2
        obtain ⟨q, hq, z1, z2, z3, z4, z5⟩ := h2
        subst z1
        have : q ≠ p := fun z => by subst z; exact ne (e.sep i j d b q h hb (isO_o k) (isO_o kj) s1 h1)
        exact ⟨q, hq, rfl, by rw [upd_ne this]; exact z2, by rw [upd_ne this]; exact z3, z4, z5.mono ex⟩
      | i a =>
        rw [kj] at h2
        obtain ⟨z0, q, hq, z1, z2, z3, z4, z5⟩ := h2
        subst z1
        have : q ≠ p := fun z => by subst z; exact ne (e.sep i j d b q h hb (isO_o k) (by rw [kj]; trivial) s1 h1)
        exact ⟨z0, q, hq, rfl, by rw [upd_ne this]; exact z2, by rw [upd_ne this]; exact z3, z4, z5.mono ex⟩
  · have nj : i ≠ j := fun z => by subst z; rw [kd_set_self] at kj; cases kj
    have nl : i ≠ l := fun z => by subst z; rw [kd_set_self] at kk; cases kk
    rw [kd_set_ne nj] at kj
    rw [kd_set_ne nl] at kk
    exact e.sep j l b b' q hj hk kj kk sj sk
  · have np : ∀ a ∈ A, a ≠ p := fun a ha z => hA.own i d p h (isO_o k) s1 (z ▸ ha)
    refine hA.sub (fun a ha => by rw [upd_ne (np a ha)]; exact (hA.out a ha).1) (fun a ha => upd_ne (np a ha)) ex (fun j b q hj kj sj => ?_) fun j b kj hj => ?_
    · have nj : i ≠ j := fun z => by subst z; rw [kd_set_self] at kj; cases kj
      rw [kd_set_ne nj] at kj
      exact hA.own j b q hj kj sj
    · have nj : i ≠ j := fun z => by subst z; rw [kd_set_self] at kj; rcases kj with ⟨_, kj⟩ | kj <;> cases kj
      rw [kd_set_ne nj]
      exact ⟨rfl, hj, rfl⟩
theorem upd_eq {H : Hp} {p : Addr} {o : HO} (h : H p = some o) : upd H p o = H := by
  funext a
  by_cases e : a = p
  · rw [e, upd_same, h]
  · rw [upd_ne e]
/-- an own dict becomes a value: it is locked -/
theorem EnvOk.pubD (e : EnvOk c S0 H0 G S H σ r) (i : Nat) (k : kd G i = .o) {d : D} (h : r[i]? = some (some d)) (hd : isDct d = true) : ∃ p u, H p = some u ∧ Mut (some u) ∧ ∀ w, ∃ S', EnvOk c S0 H0 (G.set i .v) S' (upd H p (.frz w u)) σ r := by
  obtain ⟨p, ho, s1, s2, s3, s4, s5⟩ := e.own k h
  exact ⟨p, ho, s2, s5.mut, fun w => ⟨_, e.pubG i k h s1 s2 s3 s4 ((s5.mono (Ex.new s3)).pubD hd upd_same).1⟩⟩
/-- the own object in slot i becomes a value -/
theorem EnvOk.pub (e : EnvOk c S0 H0 G S H σ r) (i : Nat) (hk : kd G i = .o ∨ kd G i = .v) (nd : ∀ d, r[i]? = some (some d) → isDct d = false) : ∃ S', EnvOk c S0 H0 (G.set i .v) S' H σ r := by
  by_cases k : kd G i = .o
  · cases h : r[i]? with
    | none =>
      refine ⟨S, e.fwd, e.len, fun j b hb => ?_, fun j l b b' q hj hk kj kk sj sk => ?_, e.sto_un i hk⟩
      · have ne : i ≠ j := fun z => by subst z; rw [h] at hb; cases hb
        obtain ⟨u, h1, h2⟩ := e.slot j b hb
        exact ⟨u, h1, by rw [kd_set_ne ne]; exact h2⟩
      · have nj : i ≠ j := fun z => by subst z; rw [h] at hj; cases hj
        have nl : i ≠ l := fun z => by subst z; rw [h] at hk; cases hk
        rw [kd_set_ne nj] at kj
        rw [kd_set_ne nl] at kk
        exact e.sep j l b b' q hj hk kj kk sj sk
    | some od =>
      cases od with
      | none =>
        refine ⟨S, e.fwd, e.len, fun j b hb => ?_, fun j l b b' q hj hk kj kk sj sk => ?_, e.sto_un i hk⟩
        · have ne : i ≠ j := fun z => by subst z; rw [h] at hb; cases hb
          obtain ⟨u, h1, h2⟩ := e.slot j b hb
          exact ⟨u, h1, by rw [kd_set_ne ne]; exact h2⟩
        · have nj : i ≠ j := fun z => by subst z; rw [h] at hj; cases hj
          have nl : i ≠ l := fun z => by subst z; rw [h] at hk; cases hk
          rw [kd_set_ne nj] at kj
          rw [kd_set_ne nl] at kk
          exact e.sep j l b b' q hj hk kj kk sj sk
      | some d =>
        obtain ⟨p, ho, s1, s2, s3, s4, s5⟩ := e.own k h
        have := e.pubG i k h s1 s2 s3 s4 (ho2 := ho) ((s5.mono (Ex.new s3)).pub (nd d h) upd_same)
        rw [upd_eq s2] at this
        exact ⟨_, this⟩
  · have k' : kd G i = .v := hk.resolve_left k
    have all : ∀ j, kd (G.set i .v) j = kd G j := fun j => by
      by_cases ne : i = j
      · subst ne; rw [kd_set_self, k']
      · exact kd_set_ne ne
    exact ⟨S, e.fwd, e.len, fun j b hb => by rw [all]; exact e.slot j b hb, fun j l b b' q hj hk kj kk sj sk => e.sep j l b b' q hj hk ((all j) ▸ kj) ((all l) ▸ kk) sj sk, e.sto_un i hk⟩
end
end Dx
end S_DxA
section S_DxB
set_option Elab.async false
set_option linter.all false
set_option maxRecDepth 100000
set_option maxHeartbeats 2000000
namespace Dx
open PySem L2
/-- what is wanted behind a result, from (S, H) on -/
def PostG (c : Cf) (σ : St) (S H : Hp) {α : Type} (r : Res α) (k : α → Hp → Hp → Prop) : Prop :=
  match r with
  | .ok a => ∀ S' H', Fwd S H S' H' → k a S' H'
  | .err n ns vs => ∀ C dd S' H' fs, c.cm n = some C → Fwd S H S' H' → S' dd = some (.xd fs) → ns = fs.map (·.1) → RpA c.K c.cm S' (fs.map (·.2)) vs → c.W (.ref C) (some dd) σ H'
  | .bad => False
section
variable {c : Cf} {σ : St} {S H S1 H1 : Hp} {α β : Type} {r : Res α} {k k' : α → Hp → Hp → Prop}
theorem PostG.mono (h : PostG c σ S H r k) (f : Fwd S H S1 H1) : PostG c σ S1 H1 r k := by
  cases r with
  | ok a => exact fun S' H' g => h S' H' (f.trans g)
  | err n ns vs => exact fun C dd S' H' fs h1 g h2 h3 h4 => h C dd S' H' fs h1 (f.trans g) h2 h3 h4
  | bad => exact h
theorem PostG.imp (h : PostG c σ S H r k) (hk : ∀ a S' H', Fwd S H S' H' → k a S' H' → k' a S' H') : PostG c σ S H r k' := by
  cases r with
  | ok a => exact fun S' H' g => hk a S' H' g (h S' H' g)
  | err n ns vs => exact h
  | bad => exact h
theorem PostG.unbind {g : α → Res β} {k : β → Hp → Hp → Prop} (h : PostG c σ S H (r.bind g) k) : PostG c σ S H r fun a S' H' => PostG c σ S' H' (g a) k := by
  cases r with
  | ok a => exact fun S' H' f => PostG.mono (show PostG c σ S H (g a) k from h) f
  | err n ns vs => exact h
  | bad => exact h
end
/-- x where p holds; nothing is reckoned for it -/
noncomputable def guard {α : Type} (p : Prop) (x : Res α) : Res α := @ite _ p (Classical.propDecidable p) x .bad
theorem guard_pos {α : Type} {p : Prop} {x : Res α} (h : p) : guard p x = x := by unfold guard; exact if_pos h
theorem PostG.gd {c : Cf} {σ : St} {S H : Hp} {α : Type} {p : Prop} {x : Res α} {k : α → Hp → Hp → Prop} (h : PostG c σ S H (guard p x) k) : p ∧ PostG c σ S H x k := by
  by_cases hp : p
  · rw [guard_pos hp] at h; exact ⟨hp, h⟩
  · unfold guard at h; rw [if_neg hp] at h; exact h.elim
/-- a mode: what the heap ahead, the heaps behind, the machine's result and the data have in common -/
abbrev Md (β α : Type) := Hp → Hp → Hp → β → α → Prop
class Anti {β α : Type} (R : Md β α) : Prop where
  anti : ∀ {H H2 S' H' : Hp} {b : β} {a : α}, Ex H H2 → R H2 S' H' b a → R H S' H' b a
def mV (c : Cf) : Md V D := fun _ S' _ v d => Rp c.K c.cm S' v d
def mB (c : Cf) : Md V D := fun _ S' H' v d => RpB c.K c.cm S' H' v d
def mO (c : Cf) : Md V D := fun H S' H' v d => ∃ p ho, v = .ref p ∧ H p = none ∧ S' p = none ∧ H' p = some ho ∧ RpO c.K c.cm S' ho d
def mA (c : Cf) : Md (List V) (List D) := fun _ S' _ vs ds => RpA c.K c.cm S' vs ds
def mE (α : Type) : Md α α := fun _ _ _ b a => b = a
instance {c : Cf} : Anti (mV c) := ⟨fun _ h => h⟩
instance {c : Cf} : Anti (mB c) := ⟨fun _ h => h⟩
instance {c : Cf} : Anti (mA c) := ⟨fun _ h => h⟩
instance {α : Type} : Anti (mE α) := ⟨fun _ h => h⟩
instance {c : Cf} : Anti (mO c) := ⟨fun e ⟨p, ho, h1, h2, h3⟩ => ⟨p, ho, h1, e.nn h2, h3⟩⟩
/-- the reading of a piece whose data is f -/
def rd (c : Cf) (G : List Ow) {α β : Type} (f : Rho → Res α) (R : Md β α) : St → Hp → (β → Hp → Prop) → Prop := fun σ H Q =>
  ∃ S0 H0 S r, EnvOk c S0 H0 G S H σ r ∧ PostG c σ S H (f r) fun a S' H' => ∀ b, R H S' H' b a → Q b H'
abbrev tV (c : Cf) (G : List Ow) (f : Rho → Res D) : TE := rd c G f (mV c)
abbrev tR (c : Cf) (G : List Ow) (f : Rho → Res D) : TE := rd c G f (mB c)
abbrev tO (c : Cf) (G : List Ow) (f : Rho → Res D) : TE := rd c G f (mO c)
abbrev tT (c : Cf) (G : List Ow) (f : Rho → Res Bool) : TT := rd c G f (mE Bool)
abbrev tAs (c : Cf) (G : List Ow) (f : Rho → Res (List D)) : TA := rd c G f (mA c)
theorem pe_imp {X : Cx} {e : Expr} {t t' : TE} (h : PE X e t) (k : ∀ σ H Q, t' σ H Q → t σ H Q) : PE X e t' := ⟨fun pins s σ H Q I q => h.run pins s σ H Q I (k σ H Q q)⟩
theorem pt_imp {X : Cx} {e : Expr} {t t' : TT} (h : PT X e t) (k : ∀ σ H Q, t' σ H Q → t σ H Q) : PT X e t' := ⟨fun pins s σ H Q I q => h.run pins s σ H Q I (k σ H Q q)⟩
theorem pa_imp {X : Cx} {es : List Expr} {t t' : TA} (h : PA X es t) (k : ∀ σ H Q, t' σ H Q → t σ H Q) : PA X es t' := ⟨fun p pins s σ H Q I q => h.run p pins s σ H Q I (k σ H Q q)⟩
theorem ps_imp {X : Cx} {st : Stmt} {t t' : TS} (h : PS X st t) (k : ∀ E σ H, t' E σ H → t E σ H) : PS X st t' := ⟨fun pins s σ H E I q => h.run pins s σ H E I (k E σ H q)⟩
theorem pss_imp {X : Cx} {st : List Stmt} {t t' : TS} (h : PSs X st t) (k : ∀ E σ H, t' E σ H → t E σ H) : PSs X st t' := ⟨fun pins s σ H E I q => h.run pins s σ H E I (k E σ H q)⟩
section
variable {c : Cf} {G : List Ow} {σ : St} {S0 H0 S H : Hp} {r : Rho} {α β γ : Type}
/-- one piece, then what follows -/
theorem rd_seq {f : Rho → Res α} {R : Md β α} (e : EnvOk c S0 H0 G S H σ r) {g : α → Res γ} {k : γ → Hp → Hp → Prop} (p : PostG c σ S H ((f r).bind g) k) {Q : β → Hp → Prop}
    (h : ∀ a b S' H', Fwd S H S' H' → EnvOk c S0 H0 G S' H' σ r → R H S' H' b a → PostG c σ S' H' (g a) k → Q b H') : rd c G f R σ H Q :=
  ⟨S0, H0, S, r, e, p.unbind.imp fun a S' H' fw hk b hb => h a b S' H' fw (e.go fw) hb hk⟩
theorem PostG.anti {R : Md β α} [Anti R] {H2 : Hp} {x : Res α} {Q : β → Hp → Prop} (e : Ex H H2) {S2 : Hp} (p : PostG c σ S2 H2 x fun a S' H' => ∀ b, R H S' H' b a → Q b H') :
    PostG c σ S2 H2 x fun a S' H' => ∀ b, R H2 S' H' b a → Q b H' := p.imp fun _ _ _ _ hk b hb => hk b (Anti.anti e hb)
/-- the wish behind a value that is there -/
theorem PostG.here {R : Md β α} {a : α} {b : β} {Q : β → Hp → Prop} (p : PostG c σ S H (.ok a) fun a S' H' => ∀ b, R H S' H' b a → Q b H') (e : Ex S H) (h : R H S H b a) : Q b H := p S H (Fwd.refl e) b h
theorem PostG.go {a : α} {k : α → Hp → Hp → Prop} (p : PostG c σ S H (.ok a) k) (e : Ex S H) : k a S H := p S H (Fwd.refl e)
/-- .. behind a new object that stays; that is kept own -/
theorem PostG.laid {d : D} {o : HO} {q : Addr} {Q : VK} (p : PostG c σ S H (.ok d) fun a S' H' => ∀ b, mV c H S' H' b a → Q b H') (e : Ex S H) (n : H q = none) (h : Rp c.K c.cm (upd S q o) (.ref q) d) : Q (.ref q) (upd H q o) :=
  p _ _ (Fwd.both e n) _ h
theorem PostG.kept {d : D} {o : HO} {q : Addr} {Q : VK} (p : PostG c σ S H (.ok d) fun a S' H' => ∀ b, mO c H S' H' b a → Q b H') (e : Ex S H) (n : H q = none) (h : RpO c.K c.cm S o d) : Q (.ref q) (upd H q o) :=
  p _ _ (Fwd.heap e n) _ ⟨q, o, rfl, n, e.nn n, upd_same, h⟩
end
/-- .. or so as soon as a told object is locked -/
def Lo (Q : Hp → Prop) (H : Hp) : Prop := Q H ∨ ∃ p u, H p = some u ∧ Mut (some u) ∧ ∀ w, Q (upd H p (.frz w u))
theorem Fwd.pubF {S H S' H' : Hp} {p : Addr} {o : HO} (f : Fwd S H S' H') (n : H p = none) (ns : S' p = none) : Fwd S H (upd S' p o) (upd H' p o) :=
  ⟨f.s.trans (Ex.new ns), f.h.put n, f.sub.both, fun a u ha m => by
    by_cases hh : a = p
    · subst hh; exact .inl n
    · rw [upd_ne hh] at ha; exact f.new a u ha m⟩
section
variable {X : Cx}
theorem pe_lock {e : Expr} {t t2 : TE} (h : PE X e t) (k : ∀ σ H Q, t2 σ H Q → t σ H fun v H' => Lo (Q v) H') : PE X e t2 := ⟨fun pins s σ H Q I q => thn (h.run pins s σ H _ I (k _ _ _ q)) fun u s' ⟨v, H', I', r, z⟩ => by
  rcases z with z | ⟨p, ho, h1, h2, z⟩
  · exact ⟨v, H', I', r, z⟩
  · obtain ⟨od, I2⟩ := I'.lock h1 h2
    exact ⟨v, _, I2, r, z od⟩⟩
theorem pss_lock {st : List Stmt} {t t2 : TS} (h : PSs X st t) (k : ∀ E σ H, t2 E σ H → Lo (fun H => t E σ H) H) : PSs X st t2 := ⟨fun pins s σ H E I q => by
  rcases k _ _ _ q with z | ⟨p, ho, h1, h2, z⟩
  · exact h.run pins s σ H E I z
  · obtain ⟨od, I2⟩ := I.lock h1 h2
    exact h.run pins s σ _ E I2 (z od)⟩
end
section
variable {X : Cx} {c : Cf} {G : List Ow} {f f1 f2 : Rho → Res D} {a b e : Expr} {pos : Pos}
theorem de_pub (h : PE X e (tO c G f)) : PE X e (tV c G f) := pe_lock h fun σ H Q ⟨S0, H0, S, r, ok, p⟩ => ⟨S0, H0, S, r, ok, by
  revert p
  cases f r with
  | ok d =>
    intro p S' H' fw b hb
    obtain ⟨q, ho, rfl, h1, h2, h3, h4⟩ := hb
    cases hd : isDct d with
    | false =>
      have fw' := fw.pub h1 h2 h3
      exact .inl (p _ H' fw' _ ((h4.mono (Ex.new h2)).pub hd upd_same))
    | true => exact .inr ⟨q, ho, h3, h4.mut, fun w => p _ _ (fw.pubF h1 h2) _ ((h4.mono (Ex.new h2)).pubD hd upd_same).1⟩
  | err n ns vs => exact id
  | bad => exact id⟩
theorem db_of (h : PE X e (tV c G f)) : PE X e (tR c G f) := pe_imp h fun σ H Q ⟨S0, H0, S, r, ok, p⟩ => ⟨S0, H0, S, r, ok, p.imp fun _ _ _ _ hk b hb => hk b (.inl hb)⟩
theorem db_own (h : PE X e (tO c G f)) : PE X e (tR c G f) := db_of (de_pub h)
def dVar (i : Nat) : Rho → Res D := fun r => match r[i]? with
  | some (some d) => .ok d
  | _ => .bad
def dC (d : D) : Rho → Res D := fun _ => .ok d
theorem of_dVar {σ : St} {S H : Hp} {i : Nat} {r : Rho} {k : D → Hp → Hp → Prop} (p : PostG c σ S H (dVar i r) k) : ∃ d, r[i]? = some (some d) ∧ PostG c σ S H (.ok d) k := by
  unfold dVar at p
  split at p
  · exact ⟨_, by assumption, p⟩
  · exact p.elim
theorem de_var (i : Nat) {x : Str} (h : PE X (.Name x pos) (tVar i)) (k : kd G i = .v) : PE X (.Name x pos) (tV c G (dVar i)) := pe_imp h fun σ H Q ⟨S0, H0, S, r, ok, p⟩ => by
  obtain ⟨d, hd, p⟩ := of_dVar p
  obtain ⟨v, h1, h2⟩ := ok.slot i d hd
  rw [k] at h2
  exact ⟨v, h1, p.here ok.ex h2⟩
theorem db_var (i : Nat) {x : Str} (h : PE X (.Name x pos) (tVar i)) (k : kd G i = .v ∨ isO (kd G i) ∨ kd G i = .b) : PE X (.Name x pos) (tR c G (dVar i)) := pe_imp h fun σ H Q ⟨S0, H0, S, r, ok, p⟩ => by
  obtain ⟨d, hd, p⟩ := of_dVar p
  obtain ⟨v, h1, h2⟩ := ok.slot i d hd
  refine ⟨v, h1, p.here ok.ex ?_⟩
  rcases k with k | k | k
  · rw [k] at h2; exact .inl h2
  · obtain ⟨q, ho, z1, z2, z3, z4, z5⟩ := h2.o_of k
    exact .inr ⟨q, ho, z1, z2, z5⟩
  · rw [k] at h2
    exact RpB.mono h2 Ex.refl ok.fwd.h
theorem de_c {v : V} {d : D} (h : PE X e (tC v)) (hd : ∀ S, Rp c.K c.cm S v d) : PE X e (tV c G (dC d)) := pe_imp h fun σ H Q ⟨S0, H0, S, r, ok, p⟩ => p.here ok.ex (hd S)
theorem de_int {i : Int} {j : Nat} : PE X (.Constant (.int i) j pos) (tV c G (dC (.int i))) := de_c pe_int fun _ => .int i
theorem de_bl {b : Bool} {j : Nat} : PE X (.Constant (.bool b) j pos) (tV c G (dC (.bl b))) := de_c pe_bl fun _ => .bl b
theorem de_non {j : Nat} : PE X (.Constant .none j pos) (tV c G (dC .non)) := de_c pe_non fun _ => .non
theorem de_str {x : Str} {j : Nat} : PE X (.Constant (.str x) j pos) (tV c G (dC (.str x))) := de_c pe_str fun _ => .str x
def dOp (g : D → D → Res D) (f1 f2 : Rho → Res D) : Rho → Res D := fun r => (f1 r).bind fun x => (f2 r).bind fun y => g x y
def OpS (c : Cf) (R : Md V D) (r2 : R2) (g : D → D → Res D) : Prop := ∀ (σ : St) (S H : Hp) (x y : V) (d e : D) (Q : VK), Ex S H → RpB c.K c.cm S H x d → RpB c.K c.cm S H y e →
  PostG c σ S H (g d e) (fun a S' H' => ∀ b, R H S' H' b a → Q b H') → r2 x y H Q
theorem op_rd {R : Md V D} [Anti R] {r2 : R2} {g : D → D → Res D} (hs : OpS c R r2 g) : ∀ σ H Q, rd c G (dOp g f1 f2) R σ H Q → tOp r2 (tR c G f1) (tR c G f2) σ H Q := fun σ H Q ⟨S0, H0, S, r, ok, p⟩ =>
  rd_seq ok p fun x v S1 H1 w1 o1 m1 p1 => rd_seq o1 p1 fun y u S2 H2 w2 o2 m2 p2 => hs σ S2 H2 v u x y Q o2.ex (RpB.mono m1 w2.s w2.h) m2 (p2.anti (w1.h.trans w2.h))
theorem de_op {R : Md V D} [Anti R] {op : Operator} {r2 : R2} {g : D → D → Res D} (ho : OpR X (binaryOp op) r2) (hs : OpS c R r2 g) (ha : PE X a (tR c G f1)) (hb : PE X b (tR c G f2)) : PE X (.BinOp a op b pos) (rd c G (dOp g f1 f2) R) :=
  pe_imp (pe_op ho ha hb) (op_rd hs)
theorem de_cmp {R : Md V D} [Anti R] {op : CmpOp} {r2 : R2} {g : D → D → Res D} (ho : OpR X (compareOp op) r2) (hs : OpS c R r2 g) (ha : PE X a (tR c G f1)) (hb : PE X b (tR c G f2)) (hm : behindInMarks op b = false) :
    PE X (.Compare a [op] [b] pos) (rd c G (dOp g f1 f2) R) := pe_imp (pe_cmpR ho ha hb hm) (op_rd hs)
/-- a truth value as a test -/
def asB : D → Res Bool
  | .bl b => .ok b
  | _ => .bad
def dT (f : Rho → Res D) : Rho → Res Bool := fun r => (f r).bind asB
theorem of_asB {σ : St} {S H : Hp} {d : D} {k : Bool → Hp → Hp → Prop} (p : PostG c σ S H (asB d) k) : ∃ b, d = .bl b ∧ PostG c σ S H (.ok b) k := by
  cases d with
  | bl b => exact ⟨b, rfl, p⟩
  | _ => exact p.elim
theorem dt_cmp {op : CmpOp} {r2 : R2} {g : D → D → Res D} (ho : OpR X (compareOp op) r2) (hs : OpS c (mV c) r2 g) (ha : PE X a (tR c G f1)) (hb : PE X b (tR c G f2)) (hm : behindInMarks op b = false) :
    PT X (.Compare a [op] [b] pos) (tT c G (dT (dOp g f1 f2))) := pt_imp (pt_cmpR ho ha hb hm) fun σ H Q ⟨S0, H0, S, r, ok, p⟩ => by
  refine op_rd (G := G) (f1 := f1) (f2 := f2) hs σ H _ (rd_seq ok p fun d v S1 H1 w1 o1 m1 p1 => ?_)
  obtain ⟨b, rfl, p1⟩ := of_asB p1
  cases m1
  exact ⟨b, rfl, p1.go o1.ex _ rfl⟩
/-- an expression whose value is True or False, as a test -/
theorem dt_val (h : PE X e (tV c G f)) (he : ∀ whole, isTrue e X.env whole = (do let v ← whole; standAt e.pos; holding [v] (truthy v)) := by intro _; rfl) : PT X e (tT c G (dT f)) :=
  pt_imp (pt_val h he) fun σ H Q ⟨S0, H0, S, r, ok, p⟩ => rd_seq ok p fun d v S1 H1 w1 o1 m1 p1 => by
    obtain ⟨b, rfl, p1⟩ := of_asB p1
    cases m1
    exact ⟨b, rfl, p1.go o1.ex _ rfl⟩
variable {t1 t2 : Rho → Res Bool} {rest : List Expr}
def dAnd (t u : Rho → Res Bool) : Rho → Res Bool := fun r => (t r).bind fun b => if b = true then u r else .ok false
def dOr (t u : Rho → Res Bool) : Rho → Res Bool := fun r => (t r).bind fun b => if b = true then .ok true else u r
def dNot (t : Rho → Res Bool) : Rho → Res Bool := fun r => (t r).bind fun b => .ok (!b)
def dIf {α : Type} (t : Rho → Res Bool) (f g : Rho → Res α) : Rho → Res α := fun r => (t r).bind fun b => if b = true then f r else g r
theorem pw_imp {t t' : TT} (h : PW X e t) (k : ∀ σ H Q, t' σ H Q → t σ H Q) : PW X e t' := ⟨fun w pins s σ H Q I q => h.run w pins s σ H Q I (k σ H Q q)⟩
theorem dw_and1 (ha : PT X a (tT c G t1)) : PW X (.BoolOp .And [a] pos) (tT c G t1) := pw_and1 ha
theorem dw_or1 (ha : PT X a (tT c G t1)) : PW X (.BoolOp .Or [a] pos) (tT c G t1) := pw_or1 ha
theorem dw_and (ha : PT X a (tT c G t1)) (hb : PW X (.BoolOp .And (b :: rest) pos) (tT c G t2)) : PW X (.BoolOp .And (a :: b :: rest) pos) (tT c G (dAnd t1 t2)) := pw_imp (pw_and ha hb) fun σ H Q ⟨S0, H0, S, r, ok, p⟩ =>
  rd_seq ok p fun x v S1 H1 w1 o1 m1 p1 => by
    rw [show v = x from m1]
    cases x with
    | true => exact ⟨S0, H0, S1, r, o1, p1⟩
    | false => exact p1.go o1.ex _ rfl
theorem dw_or (ha : PT X a (tT c G t1)) (hb : PW X (.BoolOp .Or (b :: rest) pos) (tT c G t2)) : PW X (.BoolOp .Or (a :: b :: rest) pos) (tT c G (dOr t1 t2)) := pw_imp (pw_or ha hb) fun σ H Q ⟨S0, H0, S, r, ok, p⟩ =>
  rd_seq ok p fun x v S1 H1 w1 o1 m1 p1 => by
    rw [show v = x from m1]
    cases x with
    | true => exact p1.go o1.ex _ rfl
    | false => exact ⟨S0, H0, S1, r, o1, p1⟩
theorem dt_not (ha : PT X a (tT c G t1)) : PT X (.UnaryOp .Not a pos) (tT c G (dNot t1)) := pt_imp (pt_not ha) fun σ H Q ⟨S0, H0, S, r, ok, p⟩ =>
  rd_seq ok p fun x v S1 H1 w1 o1 m1 p1 => by
    rw [show v = x from m1]
    exact p1.go o1.ex _ rfl
/-- and, or, not as values: all True or False -/
def dAndV (f g : Rho → Res D) : Rho → Res D := fun r => (f r).bind fun x => (asB x).bind fun b => if b = true then g r else .ok (.bl false)
def dOrV (f g : Rho → Res D) : Rho → Res D := fun r => (f r).bind fun x => (asB x).bind fun b => if b = true then .ok (.bl true) else g r
def dNotV (f : Rho → Res D) : Rho → Res D := fun r => (f r).bind fun x => (asB x).bind fun b => .ok (.bl (!b))
end
end Dx
end S_DxB
section S_DxC
set_option Elab.async false
set_option linter.all false
set_option maxRecDepth 100000
set_option maxHeartbeats 2000000
namespace Dx
open PySem L2
mutual
def toPy : D → Option PyData
  | .non => some .none
  | .bl b => some (.bool b)
  | .int i => some (.int i)
  | .str s => some (.str s)
  | .lst ds => (toPyL ds).map .list
  | .fz ds => (toPyL ds).map .list
  | .tup ds => (toPyL ds).map .tuple
  | .kt ds => (toPyL ds).map .tuple
  | .dk _ _ => none
  | .dt _ _ => none
  | .obj _ _ _ => none
  | .own _ => none
  | .st _ _ => none
def toPyL : List D → Option (List PyData)
  | [] => some []
  | d :: ds => match toPy d, toPyL ds with
    | some p, some ps => some (p :: ps)
    | _, _ => none
end
section
variable {K : PySem.W.Frag} {cm : CM} {S H : Hp}
mutual
theorem Rp.dp (e : Ex S H) : ∀ {v : V} {d : D} {p : PyData}, Rp K cm S v d → toPy d = some p → Dp K H v p
  | _, .non, _, h, q => by cases h; cases q; exact .non
  | _, .bl _, _, h, q => by cases h; cases q; exact .bl _
  | _, .int _, _, h, q => by cases h; cases q; exact .int _
  | _, .str _, _, h, q => by cases h; cases q; exact .str _
  | _, .lst ds, _, h, q => by
    cases h with | lst a r =>
    rw [toPy] at q
    obtain ⟨ps, h1, rfl⟩ := Option.map_eq_some_iff.mp q
    exact .lst (.inl (.inl (e _ _ a))) (RpA.dp e r h1)
  | _, .fz ds, _, h, q => by
    cases h with | fz a r =>
    rw [toPy] at q
    obtain ⟨ps, h1, rfl⟩ := Option.map_eq_some_iff.mp q
    exact .lst (e.l a) (RpA.dp e r h1)
  | _, .tup ds, _, h, q => by
    cases h with | tup a r =>
    rw [toPy] at q
    obtain ⟨ps, h1, rfl⟩ := Option.map_eq_some_iff.mp q
    exact .tup (.inl (.inl (e _ _ a))) (RpA.dp e r h1)
  | _, .kt ds, _, h, q => by
    cases h with | kt a r =>
    rw [toPy] at q
    obtain ⟨ps, h1, rfl⟩ := Option.map_eq_some_iff.mp q
    exact .tup (e.t a) (RpA.dp e r h1)
  | _, .dk _ _, _, h, q => by cases q
  | _, .dt _ _, _, h, q => by cases q
  | _, .obj _ _ _, _, h, q => by cases q
theorem RpA.dp (e : Ex S H) : ∀ {vs : List V} {ds : List D} {ps : List PyData}, RpA K cm S vs ds → toPyL ds = some ps → DpAll K H vs ps
  | _, [], _, h, q => by cases h; cases q; exact .nil
  | _, d :: ds, _, h, q => by
    cases h with | cons a r =>
    rw [toPyL] at q
    cases h1 : toPy d with
    | none => rw [h1] at q; cases q
    | some p =>
      cases h2 : toPyL ds with
      | none => rw [h1, h2] at q; cases q
      | some ps =>
        rw [h1, h2] at q
        cases q
        exact .cons (Rp.dp e a h1) (RpA.dp e r h2)
end
theorem RpB.dp {v : V} {d : D} {p : PyData} (e : Ex S H) (h : RpB K cm S H v d) (q : toPy d = some p) : Dp K H v p := by
  rcases h with h | ⟨a, ho, rfl, h2, h3⟩
  · exact h.dp e q
  · cases h3 with
    | lst r =>
      rw [toPy] at q
      obtain ⟨ps, h1, rfl⟩ := Option.map_eq_some_iff.mp q
      exact .lst (.inl (.inl h2)) (r.dp e h1)
    | dk _ _ => cases q
    | dt _ _ => cases q
    | obj _ _ _ => cases q
end
noncomputable def addD : D → D → Res D
  | .int i, .int j => .ok (.int (i + j))
  | .str a, .str b => guard (a.length + b.length ≤ sizeLine) (.ok (.str (a ++ b)))
  | .tup a, .tup b => guard (a.length + b.length ≤ sizeLine) (.ok (.tup (a ++ b)))
  | .lst a, .lst b => guard (a.length + b.length ≤ sizeLine) (.ok (.lst (a ++ b)))
  | _, _ => .bad
def rAddX (K : PySem.W.Frag) : R2 := fun x y H Q => (rI0 (fun i j => .int (i + j))) x y H Q ∨ (∃ i j, x = .str i ∧ y = .str j ∧ i.length + j.length ≤ sizeLine ∧ Q (.str (i ++ j)) H) ∨ rCatA K x y H Q ∨ rCat x y H Q
section
variable {X : Cx} {c : Cf}
theorem or_add : OpR X (binaryOp .Add) (rAddX X.K) := op_add.or (op_add_str.or (op_catA.or op_cat))
theorem PostG.ite {σ : St} {S H : Hp} {α : Type} {p : Prop} [Decidable p] {x : Res α} {k : α → Hp → Hp → Prop} (h : PostG c σ S H (if p then x else .bad) k) : p ∧ PostG c σ S H x k := by
  by_cases hp : p
  · rw [if_pos hp] at h; exact ⟨hp, h⟩
  · rw [if_neg hp] at h; exact h.elim
theorem os_add : OpS c (mV c) (rAddX c.K) addD := by
  intro σ S H x y d e Q ex hx hy p
  unfold addD at p
  split at p
  · cases hx.int; cases hy.int
    exact .inl ⟨_, _, rfl, rfl, p.here ex (.int _)⟩
  · cases hx.str; cases hy.str
    obtain ⟨hl, p⟩ := p.gd
    exact .inr (.inl ⟨_, _, rfl, rfl, hl, p.here ex (.str _)⟩)
  · obtain ⟨q1, xs, rfl, a1, r1, s1⟩ := hx.tup ex
    obtain ⟨q2, ys, rfl, a2, r2, s2⟩ := hy.tup ex
    obtain ⟨hl, p⟩ := p.gd
    refine .inr (.inr (.inl ⟨_, _, xs, ys, rfl, rfl, a1, a2, by rw [r1.length, r2.length]; exact hl, fun h => ?_, fun _ h => ?_, fun _ _ q hq => ?_⟩))
    · subst h; cases r1; exact p.here ex (.tup s2 r2)
    · subst h; cases r2; rw [List.append_nil] at p; exact p.here ex (.tup s1 r1)
    · exact p.laid ex hq (.tup upd_same ((r1.app r2).mono (Ex.new (ex.nn hq))))
  · obtain ⟨q1, xs, rfl, a1, r1⟩ := hx.list ex
    obtain ⟨q2, ys, rfl, a2, r2⟩ := hy.list ex
    obtain ⟨hl, p⟩ := p.gd
    refine .inr (.inr (.inr ⟨_, _, xs, ys, rfl, rfl, a1, a2, by rw [r1.length, r2.length]; exact hl, fun q hq => ?_⟩))
    exact p.laid ex hq (.lst upd_same ((r1.app r2).mono (Ex.new (ex.nn hq))))
  · exact p.elim
/-- list + list, the new list one's own -/
noncomputable def addL : D → D → Res D
  | .lst a, .lst b => guard (a.length + b.length ≤ sizeLine) (.ok (.lst (a ++ b)))
  | _, _ => .bad
theorem os_addL : OpS c (mO c) rCat addL := by
  intro σ S H x y d e Q ex hx hy p
  unfold addL at p
  split at p
  · obtain ⟨q1, xs, rfl, a1, r1⟩ := hx.list ex
    obtain ⟨q2, ys, rfl, a2, r2⟩ := hy.list ex
    obtain ⟨hl, p⟩ := p.gd
    exact ⟨_, _, xs, ys, rfl, rfl, a1, a2, by rw [r1.length, r2.length]; exact hl, fun q hq => p.kept ex hq (.lst (r1.app r2))⟩
  · exact p.elim
def subD : D → D → Res D
  | .int i, .int j => .ok (.int (i - j))
  | _, _ => .bad
theorem os_sub : OpS c (mV c) (rI0 fun i j => .int (i - j)) subD := by
  intro σ S H x y d e Q ex hx hy p
  unfold subD at p
  split at p
  · cases hx.int; cases hy.int
    exact ⟨_, _, rfl, rfl, p.here ex (.int _)⟩
  · exact p.elim
def smallI (i : Int) : Prop := -(2 ^ 64) < i ∧ i < 2 ^ 64
theorem RpA.rep {K : PySem.W.Frag} {cm : CM} {S : Hp} {vs : List V} {ds : List D} (h : RpA K cm S vs ds) : ∀ n : Nat, RpA K cm S (List.replicate n vs).flatten (List.replicate n ds).flatten
  | 0 => .nil
  | n + 1 => by rw [List.replicate_succ, List.replicate_succ, List.flatten_cons, List.flatten_cons]; exact h.app (RpA.rep h n)
noncomputable def mulD : D → D → Res D
  | .int i, .int j => guard (smallI i ∨ smallI j) (.ok (.int (i * j)))
  | .lst a, .int k => guard (0 ≤ k ∧ k < 2 ^ 60 ∧ a.length * k.toNat ≤ sizeLine) (.ok (.lst (List.replicate k.toNat a).flatten))
  | _, _ => .bad
def rMulX : R2 := fun x y H Q => (rI CMul (fun i j => .int (i * j))) x y H Q ∨ rRep x y H Q
theorem or_mul : OpR X (binaryOp .Mult) rMulX := op_mul.or op_rep
theorem os_mul : OpS c (mV c) rMulX mulD := by
  intro σ S H x y d e Q ex hx hy p
  unfold mulD at p
  split at p
  · cases hx.int; cases hy.int
    obtain ⟨hl, p⟩ := p.gd
    exact .inl ⟨_, _, rfl, rfl, hl, p.here ex (.int _)⟩
  · obtain ⟨q1, xs, rfl, a1, r1⟩ := hx.list ex
    cases hy.int
    obtain ⟨⟨h0, h1, h2⟩, p⟩ := p.gd
    refine .inr ⟨_, _, xs, rfl, rfl, a1, by omega, by omega, by rw [r1.length]; exact h2, fun q hq => ?_⟩
    exact p.laid ex hq (.lst upd_same ((r1.rep _).mono (Ex.new (ex.nn hq))))
  · exact p.elim
noncomputable def fdivD : D → D → Res D
  | .int i, .int j => if 0 < j then guard (j < 4611686018427387904) (.ok (.int (i / j))) else guard (j ≠ 0 ∧ j.natAbs < 1073741824) (.ok (.int (i.fdiv j)))
  | _, _ => .bad
def rFdivX : R2 := fun x y H Q => (rI CDivW (fun i j => .int (i / j))) x y H Q ∨ (rI CDivN (fun i j => .int (i.fdiv j))) x y H Q
theorem or_fdiv : OpR X (binaryOp .FloorDiv) rFdivX := op_fdivW.or op_fdivN
theorem os_fdiv : OpS c (mV c) rFdivX fdivD := by
  intro σ S H x y d e Q ex hx hy p
  unfold fdivD at p
  split at p
  · cases hx.int; cases hy.int
    split at p
    · rename_i h
      obtain ⟨h2, p⟩ := p.gd
      exact .inl ⟨_, _, rfl, rfl, wide_div (b := 62) h (by omega) (by decide) (by decide), p.here ex (.int _)⟩
    · obtain ⟨h, p⟩ := p.gd
      exact .inr ⟨_, _, rfl, rfl, h, p.here ex (.int _)⟩
  · exact p.elim
noncomputable def modD : D → D → Res D
  | .int i, .int j => guard (0 < j) (.ok (.int (i % j)))
  | _, _ => .bad
theorem os_mod : OpS c (mV c) (rI (fun _ j => 0 < j) fun i j => .int (i % j)) modD := by
  intro σ S H x y d e Q ex hx hy p
  unfold modD at p
  split at p
  · cases hx.int; cases hy.int
    obtain ⟨h, p⟩ := p.gd
    exact ⟨_, _, rfl, rfl, h, p.here ex (.int _)⟩
  · exact p.elim
def intsD (g : Int → Int → Int) : D → D → Res D
  | .int i, .int j => .ok (.int (g i j))
  | _, _ => .bad
theorem os_ints {g : Int → Int → Int} : OpS c (mV c) (rI0 fun i j => .int (g i j)) (intsD g) := by
  intro σ S H x y d e Q ex hx hy p
  unfold intsD at p
  split at p
  · cases hx.int; cases hy.int
    exact ⟨_, _, rfl, rfl, p.here ex (.int _)⟩
  · exact p.elim
def eqFlat : D → D → Option Bool
  | .int i, .int j => some (decide (i = j))
  | .str a, .str b => some (decide (a = b))
  | .bl a, .bl b => some (decide (a = b))
  | .non, .non => some true
  | .non, .int _ => some false
  | .non, .bl _ => some false
  | .non, .str _ => some false
  | .int _, .non => some false
  | .bl _, .non => some false
  | .str _, .non => some false
  | .int _, .str _ => some false
  | .str _, .int _ => some false
  | .bl _, .str _ => some false
  | .str _, .bl _ => some false
  | _, _ => none
def eqDeep (d e : D) : Res Bool := match toPy d, toPy e with
  | some p, some q => if SeqAt.shaped p = true ∧ SeqAt.shaped q = true then .ok (PyData.eqv p q) else .bad
  | _, _ => .bad
def eqB (d e : D) : Res Bool := match eqFlat d e with
  | some b => .ok b
  | none => eqDeep d e
def eqD (d e : D) : Res D := (eqB d e).bind fun b => .ok (.bl b)
def neD (d e : D) : Res D := (eqB d e).bind fun b => .ok (.bl (!b))
theorem of_eqDeep {σ : St} {S H : Hp} {x y : V} {d e : D} {g : Bool → Res D} {k : D → Hp → Hp → Prop} (ex : Ex S H) (hx : RpB c.K c.cm S H x d) (hy : RpB c.K c.cm S H y e) (p : PostG c σ S H ((eqDeep d e).bind g) k) :
    ∃ u v, Dp c.K H x u ∧ Dp c.K H y v ∧ SeqAt.shaped u = true ∧ SeqAt.shaped v = true ∧ PostG c σ S H (g (PyData.eqv u v)) k := by
  unfold eqDeep at p
  split at p
  · rename_i u v h1 h2
    by_cases hs : SeqAt.shaped u = true ∧ SeqAt.shaped v = true
    · rw [if_pos hs] at p
      exact ⟨u, v, hx.dp ex h1, hy.dp ex h2, hs.1, hs.2, p⟩
    · rw [if_neg hs] at p
      exact p.elim
  · exact p.elim
theorem of_eqFlat {S H : Hp} {x y : V} {d e : D} {b : Bool} (hx : RpB c.K c.cm S H x d) (hy : RpB c.K c.cm S H y e) (h : eqFlat d e = some b) : scal x y = true ∧ decide (x = y) = b := by
  unfold eqFlat at h
  split at h
  · cases hx.int; cases hy.int; cases h; exact ⟨rfl, by simp⟩
  · cases hx.str; cases hy.str; cases h; exact ⟨rfl, by simp⟩
  · cases hx.bl; cases hy.bl; cases h; exact ⟨rfl, by simp⟩
  · cases hx.non; cases hy.non; cases h; exact ⟨rfl, rfl⟩
  · cases hx.non; cases hy.int; cases h; exact ⟨rfl, rfl⟩
  · cases hx.non; cases hy.bl; cases h; exact ⟨rfl, rfl⟩
  · cases hx.non; cases hy.str; cases h; exact ⟨rfl, rfl⟩
  · cases hx.int; cases hy.non; cases h; exact ⟨rfl, rfl⟩
  · cases hx.bl; cases hy.non; cases h; exact ⟨rfl, rfl⟩
  · cases hx.str; cases hy.non; cases h; exact ⟨rfl, rfl⟩
  · cases hx.int; cases hy.str; cases h; exact ⟨rfl, rfl⟩
  · cases hx.str; cases hy.int; cases h; exact ⟨rfl, rfl⟩
  · cases hx.bl; cases hy.str; cases h; exact ⟨rfl, rfl⟩
  · cases hx.str; cases hy.bl; cases h; exact ⟨rfl, rfl⟩
  · cases h
def rEqX (K : PySem.W.Frag) : R2 := fun x y H Q => rEq x y H Q ∨ rEqD K x y H Q
def rNeX (K : PySem.W.Frag) : R2 := fun x y H Q => rNe x y H Q ∨ rNeD K x y H Q
theorem or_eq (hu : X.A.units + 64 < cLine) : OpR X (compareOp .Eq) (rEqX X.K) := op_eq.or (op_eqD hu)
theorem or_ne (hu : X.A.units + 64 < cLine) : OpR X (compareOp .NotEq) (rNeX X.K) := op_ne.or (op_neD hu)
theorem os_eq : OpS c (mV c) (rEqX c.K) eqD := by
  intro σ S H x y d e Q ex hx hy p
  unfold eqD eqB at p
  split at p
  · rename_i b hb
    obtain ⟨h1, h2⟩ := of_eqFlat hx hy hb
    refine .inl ⟨h1, ?_⟩
    rw [h2]; exact p.here ex (.bl _)
  · obtain ⟨u, v, h1, h2, h3, h4, p⟩ := of_eqDeep ex hx hy p
    exact .inr ⟨u, v, h1, h2, h3, h4, p.here ex (.bl _)⟩
theorem os_ne : OpS c (mV c) (rNeX c.K) neD := by
  intro σ S H x y d e Q ex hx hy p
  unfold neD eqB at p
  split at p
  · rename_i b hb
    obtain ⟨h1, h2⟩ := of_eqFlat hx hy hb
    refine .inl ⟨h1, ?_⟩
    rw [h2]; exact p.here ex (.bl _)
  · obtain ⟨u, v, h1, h2, h3, h4, p⟩ := of_eqDeep ex hx hy p
    exact .inr ⟨u, v, h1, h2, h3, h4, p.here ex (.bl _)⟩
/-- by ints, by texts -/
def ordD (g : Int → Int → Bool) (h : Str → Str → Bool) : D → D → Res D
  | .int i, .int j => .ok (.bl (g i j))
  | .str a, .str b => .ok (.bl (h a b))
  | _, _ => .bad
def rOrd (g : Int → Int → Bool) (h : Str → Str → Bool) : R2 := fun x y H Q => (rI0 fun i j => .bl (g i j)) x y H Q ∨ ∃ i j, x = .str i ∧ y = .str j ∧ Q (.bl (h i j)) H
theorem os_ord {g : Int → Int → Bool} {h : Str → Str → Bool} : OpS c (mV c) (rOrd g h) (ordD g h) := by
  intro σ S H x y d e Q ex hx hy p
  unfold ordD at p
  split at p
  · cases hx.int; cases hy.int
    exact .inl ⟨_, _, rfl, rfl, p.here ex (.bl _)⟩
  · cases hx.str; cases hy.str
    exact .inr ⟨_, _, rfl, rfl, p.here ex (.bl _)⟩
  · exact p.elim
abbrev ltD : D → D → Res D := ordD (fun i j => decide (i < j)) fun i j => decide (i.cps.toList < j.cps.toList)
abbrev leD : D → D → Res D := ordD (fun i j => decide (i ≤ j)) fun i j => !decide (j.cps.toList < i.cps.toList)
abbrev gtD : D → D → Res D := ordD (fun i j => decide (j < i)) fun i j => decide (j.cps.toList < i.cps.toList)
abbrev geD : D → D → Res D := ordD (fun i j => decide (j ≤ i)) fun i j => !decide (i.cps.toList < j.cps.toList)
theorem or_lt : OpR X (compareOp .Lt) (rOrd (fun i j => decide (i < j)) fun i j => decide (i.cps.toList < j.cps.toList)) := op_lt.or op_lt_str
theorem or_le : OpR X (compareOp .LtE) (rOrd (fun i j => decide (i ≤ j)) fun i j => !decide (j.cps.toList < i.cps.toList)) := op_le.or op_le_str
theorem or_gt : OpR X (compareOp .Gt) (rOrd (fun i j => decide (j < i)) fun i j => decide (j.cps.toList < i.cps.toList)) := op_gt.or op_gt_str
theorem or_ge : OpR X (compareOp .GtE) (rOrd (fun i j => decide (j ≤ i)) fun i j => !decide (i.cps.toList < j.cps.toList)) := op_ge.or op_ge_str
/-- is None, is not None -/
def isN : D → Bool
  | .non => true
  | _ => false
def isD (neg : Bool) (d e : D) : Res D := if isN e = true then .ok (.bl (if neg then !isN d else isN d)) else .bad
theorem RpB.isN {K : PySem.W.Frag} {cm : CM} {S H : Hp} {v : V} {d : D} (h : RpB K cm S H v d) : decide (v = .non) = isN d := by
  rcases h with h | ⟨p, ho, rfl, h2, h3⟩
  · cases h <;> rfl
  · cases h3 <;> rfl
theorem os_is : OpS c (mV c) (fun x y H Q => y = .non ∧ Q (.bl (decide (x = .non))) H) (isD false) := by
  intro σ S H x y d e Q ex hx hy p
  obtain ⟨h, p⟩ := p.ite
  rw [hx.isN]
  refine ⟨of_decide_eq_true (hy.isN.trans h), p.here ex (.bl _)⟩
theorem os_isnot : OpS c (mV c) (fun x y H Q => y = .non ∧ Q (.bl (!decide (x = .non))) H) (isD true) := by
  intro σ S H x y d e Q ex hx hy p
  obtain ⟨h, p⟩ := p.ite
  rw [hx.isN]
  refine ⟨of_decide_eq_true (hy.isN.trans h), p.here ex (.bl _)⟩
/-- x in: a list of data, a text in a text, a flat thing in a tuple of flat things -/
def flatD : D → Option V
  | .non => some .non
  | .bl b => some (.bl b)
  | .int i => some (.int i)
  | .str s => some (.str s)
  | _ => none
def flatDs : List D → Option (List V)
  | [] => some []
  | d :: ds => match flatD d, flatDs ds with
    | some v, some vs => some (v :: vs)
    | _, _ => none
def inDeep (d : D) (ds : List D) : Res Bool := match toPy d, toPyL ds with
  | some p, some ps => if SeqAt.shaped p = true ∧ SeqAt.shaped (.list ps) = true then .ok (ps.any fun z => PyData.eqv z p) else .bad
  | _, _ => .bad
def inFlat (d : D) (ds : List D) : Option Bool := match flatD d, flatDs ds with
  | some v, some vs => some (inV v vs)
  | _, _ => none
def inLst (d : D) (ds : List D) : Res Bool := match inFlat d ds with
  | some b => .ok b
  | none => inDeep d ds
def inTup (d : D) (ds : List D) : Res Bool := match inFlat d ds with
  | some b => .ok b
  | none => .bad
def inStr (a b : Str) : Bool := match a.cps.toList with
  | [n] => decide (n ∈ b.cps.toList)
  | _ => !(Builtin.Str.occurrences b a 0 b.length 1).isEmpty
def inB : D → D → Res Bool
  | d, .lst ds => inLst d ds
  | d, .fz ds => inLst d ds
  | d, .tup ds => inTup d ds
  | .str a, .str b => .ok (inStr a b)
  | _, _ => .bad
def inD (d e : D) : Res D := (inB d e).bind fun b => .ok (.bl b)
def ninD (d e : D) : Res D := (inB d e).bind fun b => .ok (.bl (!b))
theorem RpB.flat {K : PySem.W.Frag} {cm : CM} {S H : Hp} {v u : V} {d : D} (h : RpB K cm S H v d) (q : flatD d = some u) : v = u ∧ flatV u = true := by
  rcases h with h | ⟨p, ho, rfl, h2, h3⟩
  · cases h <;> first | (cases q; exact ⟨rfl, rfl⟩) | cases q
  · cases h3 <;> cases q
theorem RpA.flat {K : PySem.W.Frag} {cm : CM} {S : Hp} : ∀ {vs us : List V} {ds : List D}, RpA K cm S vs ds → flatDs ds = some us → vs = us ∧ us.all flatV = true
  | _, _, [], h, q => by cases h; cases q; exact ⟨rfl, rfl⟩
  | _, _, d :: ds, h, q => by
    cases h with | cons a r =>
    rw [flatDs] at q
    cases h1 : flatD d with
    | none => rw [h1] at q; cases q
    | some u =>
      cases h2 : flatDs ds with
      | none => rw [h1, h2] at q; cases q
      | some us =>
        rw [h1, h2] at q
        cases q
        obtain ⟨rfl, z1⟩ := RpB.flat (H := S) (.inl a) h1
        obtain ⟨rfl, z2⟩ := RpA.flat r h2
        exact ⟨rfl, by simp [z1, z2]⟩
def rInX (K : PySem.W.Frag) (neg : Bool) : R2 := fun x y H Q => (∃ d ds, Dp K H x d ∧ Dp K H y (.list ds) ∧ SeqAt.shaped d = true ∧ SeqAt.shaped (.list ds) = true ∧ Q (.bl (if neg then !ds.any fun z => PyData.eqv z d else ds.any fun z => PyData.eqv z d)) H) ∨
  rIn K neg x y H Q ∨ (∃ i j, x = .str i ∧ y = .str j ∧ Q (.bl (if neg then !(!(Builtin.Str.occurrences j i 0 j.length 1).isEmpty) else !(Builtin.Str.occurrences j i 0 j.length 1).isEmpty)) H) ∨
  ∃ (n : Nat) (z : Str), x = .str ⟨#[n]⟩ ∧ y = .str z ∧ Q (.bl (if neg then !decide (n ∈ z.cps.toList) else decide (n ∈ z.cps.toList))) H
theorem or_in (hu : X.A.units + 65 < cLine) : OpR X (compareOp .In) (rInX X.K false) := (op_inD hu).or (op_in_seq.or (op_in_str.or op_in_sign))
theorem or_nin (hu : X.A.units + 65 < cLine) : OpR X (compareOp .NotIn) (rInX X.K true) := (op_notInD hu).or (op_notIn_seq.or (op_notIn_str.or op_notIn_sign))
theorem of_inFlat {S H : Hp} {x : V} {d : D} {xs : List V} {ds : List D} {b : Bool} (hx : RpB c.K c.cm S H x d) (r1 : RpA c.K c.cm S xs ds) (h : inFlat d ds = some b) : flatV x = true ∧ xs.all flatV = true ∧ inV x xs = b := by
  unfold inFlat at h
  split at h
  · rename_i v vs h1 h2
    obtain ⟨rfl, z1⟩ := hx.flat h1
    obtain ⟨rfl, z2⟩ := r1.flat h2
    cases h
    exact ⟨z1, z2, rfl⟩
  · cases h
theorem of_inLst {σ : St} {S H : Hp} {x y : V} {d : D} {ds : List D} {neg : Bool} {Q : VK} {q : Addr} {xs : List V} (ex : Ex S H) (hx : RpB c.K c.cm S H x d) (hy : y = .ref q) (a1 : SqL c.K H q xs) (r1 : RpA c.K c.cm S xs ds) (hd : ∀ ps, toPyL ds = some ps → Dp c.K H y (.list ps))
    (p : PostG c σ S H ((inLst d ds).bind fun b => .ok (.bl (if neg then !b else b))) fun a S' H' => ∀ b, mV c H S' H' b a → Q b H') : rInX c.K neg x y H Q := by
  unfold inLst at p
  split at p
  · rename_i b hb
    obtain ⟨z1, z2, z3⟩ := of_inFlat hx r1 hb
    refine .inr (.inl ⟨q, xs, hy, .inl a1, z1, z2, ?_⟩)
    rw [z3]; exact p.here ex (.bl _)
  · unfold inDeep at p
    split at p
    · rename_i p' ps h1 h2
      by_cases hs : SeqAt.shaped p' = true ∧ SeqAt.shaped (.list ps) = true
      · rw [if_pos hs] at p
        exact .inl ⟨p', ps, hx.dp ex h1, hd ps h2, hs.1, hs.2, p.here ex (.bl _)⟩
      · rw [if_neg hs] at p; exact p.elim
    · exact p.elim
theorem of_inB {σ : St} {S H : Hp} {x y : V} {d e : D} {neg : Bool} {Q : VK} (ex : Ex S H) (hx : RpB c.K c.cm S H x d) (hy : RpB c.K c.cm S H y e)
    (p : PostG c σ S H ((inB d e).bind fun b => .ok (.bl (if neg then !b else b))) fun a S' H' => ∀ b, mV c H S' H' b a → Q b H') : rInX c.K neg x y H Q := by
  unfold inB at p
  split at p
  · obtain ⟨q, xs, hq, a1, r1⟩ := hy.list ex
    exact of_inLst ex hx hq (.inl (.inl a1)) r1 (fun ps h => hy.dp ex (by rw [toPy, h]; rfl)) p
  · obtain ⟨q, xs, hq, a1, r1⟩ := hy.fz ex
    exact of_inLst ex hx hq a1 r1 (fun ps h => hy.dp ex (by rw [toPy, h]; rfl)) p
  · unfold inTup at p
    split at p
    · rename_i b hb
      obtain ⟨q, xs, rfl, a1, r1, s1⟩ := hy.tup ex
      obtain ⟨z1, z2, z3⟩ := of_inFlat hx r1 hb
      refine .inr (.inl ⟨q, xs, rfl, .inr a1, z1, z2, ?_⟩)
      rw [z3]; exact p.here ex (.bl _)
    · exact p.elim
  · rename_i a b
    cases hx.str; cases hy.str
    unfold inStr at p
    split at p
    · rename_i n hn
      have ha : a = ⟨#[n]⟩ := Str.ext' (Array.toList_inj.mp (by rw [hn]))
      exact .inr (.inr (.inr ⟨n, b, by rw [ha], rfl, p.here ex (.bl _)⟩))
    · exact .inr (.inr (.inl ⟨_, _, rfl, rfl, p.here ex (.bl _)⟩))
  · exact p.elim
theorem os_in : OpS c (mV c) (rInX c.K false) inD := fun σ S H x y d e Q ex hx hy p => of_inB (neg := false) ex hx hy p
theorem os_nin : OpS c (mV c) (rInX c.K true) ninD := fun σ S H x y d e Q ex hx hy p => of_inB (neg := true) ex hx hy p
end
end Dx
end S_DxC
section S_DxD
set_option Elab.async false
set_option linter.all false
set_option maxRecDepth 100000
set_option maxHeartbeats 2000000
namespace Dx
open PySem L2
section
variable {X : Cx} {c : Cf} {G : List Ow} {f f1 f2 f3 : Rho → Res D} {a b e : Expr} {es : List Expr} {pos p : Pos} {fs : Rho → Res (List D)}
def dChain (g g' : D → D → Res D) (f1 f2 f3 : Rho → Res D) : Rho → Res D := fun r => (f1 r).bind fun x => (f2 r).bind fun y => (g x y).bind fun z => (asB z).bind fun k => if k = true then (f3 r).bind fun w => g' y w else .ok (.bl false)
theorem chain_rd {r2 r2' : R2} {g g' : D → D → Res D} (hs : OpS c (mV c) r2 g) (hs' : OpS c (mV c) r2' g') : ∀ σ H Q, tV c G (dChain g g' f1 f2 f3) σ H Q → tChain r2 r2' (tR c G f1) (tR c G f2) (tR c G f3) σ H Q := fun σ H Q ⟨S0, H0, S, r, ok, p⟩ =>
  rd_seq ok p fun x v S1 H1 w1 o1 m1 p1 => rd_seq o1 p1 fun y u S2 H2 w2 o2 m2 p2 => hs σ S2 H2 v u x y _ o2.ex (RpB.mono m1 w2.s w2.h) m2 (p2.unbind.imp fun z S3 H3 w3 p3 bz hz => by
    obtain ⟨k, rfl, q3⟩ := of_asB (PostG.imp p3.unbind fun _ _ _ _ h => h)
    cases hz
    refine ⟨k, rfl, ?_⟩
    have o3 := o2.go w3
    have p4 := q3.go o3.ex
    cases k with
    | true => exact rd_seq o3 p4 fun w u' S4 H4 w4 o4 m4 p5 => hs' σ S4 H4 u u' y w Q o4.ex (RpB.mono m2 (w3.s.trans w4.s) (w3.h.trans w4.h)) m4 p5
    | false => exact p4.go o3.ex _ (.bl _))
theorem dt_chain {op op' : CmpOp} {r2 r2' : R2} {g g' : D → D → Res D} {e3 : Expr} (ho : OpR X (compareOp op) r2) (hs : OpS c (mV c) r2 g) (ho' : OpR X (compareOp op') r2') (hs' : OpS c (mV c) r2' g') (ha : PE X a (tR c G f1)) (hb : PE X b (tR c G f2)) (hc : PE X e3 (tR c G f3))
    (hm : lastMarks [op, op'] [b, e3] = false := by with_unfolding_all rfl) : PT X (.Compare a [op, op'] [b, e3] pos) (tT c G (dT (dChain g g' f1 f2 f3))) := pt_imp (pt_chain ho ho' ha hb hc hm) fun σ H Q ⟨S0, H0, S, r, ok, p⟩ => by
  refine chain_rd (G := G) hs hs' σ H _ (rd_seq ok p fun d v S1 H1 w1 o1 m1 p1 => ?_)
  obtain ⟨b, rfl, p1⟩ := of_asB p1
  cases m1
  exact ⟨b, rfl, p1.go o1.ex _ rfl⟩
def negD : D → Res D
  | .int i => .ok (.int (-i))
  | _ => .bad
def dUn (g : D → Res D) (f : Rho → Res D) : Rho → Res D := fun r => (f r).bind g
theorem de_neg (ha : PE X a (tV c G f)) : PE X (.UnaryOp .USub a pos) (tV c G (dUn negD f)) := pe_imp (pe_un un_neg ha) fun σ H Q ⟨S0, H0, S, r, ok, p⟩ => rd_seq ok p fun d v S1 H1 w1 o1 m1 p1 => by
  cases d with
  | int i => cases m1; exact ⟨i, rfl, p1.go o1.ex _ (.int _)⟩
  | _ => exact p1.elim
theorem de_one {op : BoolOp} (h : PE X a (tV c G f)) : PE X (.BoolOp op [a] pos) (tV c G f) := pe_one h
theorem de_and {rest : List Expr} (ha : PE X a (tV c G f1)) (hb : PE X (.BoolOp .And (b :: rest) pos) (tV c G f2)) : PE X (.BoolOp .And (a :: b :: rest) pos) (tV c G (dAndV f1 f2)) := pe_imp (pe_and ha hb) fun σ H Q ⟨S0, H0, S, r, ok, p⟩ =>
  rd_seq ok p fun d v S1 H1 w1 o1 m1 p1 => by
    obtain ⟨k, rfl, q1⟩ := of_asB (p1.unbind)
    cases m1
    refine ⟨k, rfl, ?_⟩
    have p2 := q1.go o1.ex
    cases k with
    | true => exact ⟨S0, H0, S1, r, o1, p2⟩
    | false => exact p2.go o1.ex _ (.bl _)
def dNil : Rho → Res (List D) := fun _ => .ok []
def dCons (f : Rho → Res D) (g : Rho → Res (List D)) : Rho → Res (List D) := fun r => (f r).bind fun x => (g r).bind fun xs => .ok (x :: xs)
/-- with a mode for each: true, a thing that is only read -/
def RpM (c : Cf) (S H : Hp) : List Bool → List V → List D → Prop
  | [], [], [] => True
  | true :: ms, v :: vs, d :: ds => RpB c.K c.cm S H v d ∧ RpM c S H ms vs ds
  | false :: ms, v :: vs, d :: ds => Rp c.K c.cm S v d ∧ RpM c S H ms vs ds
  | _, _, _ => False
theorem RpM.mono {S H S' H' : Hp} (e : Ex S S') (e' : Ex H H') : ∀ {ms : List Bool} {vs : List V} {ds : List D}, RpM c S H ms vs ds → RpM c S' H' ms vs ds
  | [], [], [], _ => trivial
  | true :: ms, v :: vs, d :: ds, h => ⟨h.1.mono e e', RpM.mono e e' h.2⟩
  | false :: ms, v :: vs, d :: ds, h => ⟨h.1.mono e, RpM.mono e e' h.2⟩
  | [], _ :: _, _, h => h.elim
  | [], [], _ :: _, h => h.elim
  | true :: _, [], _, h => h.elim
  | true :: _, _ :: _, [], h => h.elim
  | false :: _, [], _, h => h.elim
  | false :: _, _ :: _, [], h => h.elim
def mM (c : Cf) (ms : List Bool) : Md (List V) (List D) := fun _ S' H' vs ds => RpM c S' H' ms vs ds
instance {ms : List Bool} : Anti (mM c ms) := ⟨fun _ h => h⟩
abbrev tM (c : Cf) (G : List Ow) (ms : List Bool) (f : Rho → Res (List D)) : TA := rd c G f (mM c ms)
theorem dm_nil : PA X [] (tM c G [] dNil) := pa_imp pa_nil fun σ H Q ⟨S0, H0, S, r, ok, p⟩ => p.go ok.ex _ trivial
theorem dm_bor {ms : List Bool} (ha : PE X e (tR c G f)) (hr : PA X es (tM c G ms fs)) (hs : starEach (e :: es) X.env = (false, eval e X.env) :: starEach es X.env := by rfl) : PA X (e :: es) (tM c G (true :: ms) (dCons f fs)) :=
  pa_imp (pa_cons ha hr hs) fun σ H Q ⟨S0, H0, S, r, ok, p⟩ => rd_seq ok p fun x v S1 H1 w1 o1 m1 p1 => rd_seq o1 p1 fun xs vs S2 H2 w2 o2 m2 p2 => p2.go o2.ex _ ⟨RpB.mono m1 w2.s w2.h, m2⟩
theorem dm_val {ms : List Bool} (ha : PE X e (tV c G f)) (hr : PA X es (tM c G ms fs)) (hs : starEach (e :: es) X.env = (false, eval e X.env) :: starEach es X.env := by rfl) : PA X (e :: es) (tM c G (false :: ms) (dCons f fs)) :=
  pa_imp (pa_cons ha hr hs) fun σ H Q ⟨S0, H0, S, r, ok, p⟩ => rd_seq ok p fun x v S1 H1 w1 o1 m1 p1 => rd_seq o1 p1 fun xs vs S2 H2 w2 o2 m2 p2 => p2.go o2.ex _ ⟨Rp.mono w2.s m1, m2⟩
theorem da_nil : PA X [] (tAs c G dNil) := pa_imp pa_nil fun σ H Q ⟨S0, H0, S, r, ok, p⟩ => p.go ok.ex _ .nil
theorem da_cons (ha : PE X e (tV c G f)) (hr : PA X es (tAs c G fs)) (hs : starEach (e :: es) X.env = (false, eval e X.env) :: starEach es X.env := by rfl) : PA X (e :: es) (tAs c G (dCons f fs)) :=
  pa_imp (pa_cons ha hr hs) fun σ H Q ⟨S0, H0, S, r, ok, p⟩ => rd_seq ok p fun x v S1 H1 w1 o1 m1 p1 => rd_seq o1 p1 fun xs vs S2 H2 w2 o2 m2 p2 => p2.go o2.ex _ (.cons (Rp.mono w2.s m1) m2)
noncomputable def mkTup (ds : List D) : Res D := guard (ds.length ≤ sizeLine) (.ok (.tup ds))
noncomputable def mkLst (ds : List D) : Res D := guard (ds.length ≤ sizeLine) (.ok (.lst ds))
noncomputable def dTup (g : Rho → Res (List D)) : Rho → Res D := fun r => (g r).bind mkTup
noncomputable def dLst (g : Rho → Res (List D)) : Rho → Res D := fun r => (g r).bind mkLst
theorem de_tup {k : Nat} (h : PA X es (tAs c G fs)) : PE X (.Tuple es k pos) (tV c G (dTup fs)) := pe_imp (pe_tup h) fun σ H Q ⟨S0, H0, S, r, ok, p⟩ => rd_seq ok p fun ds vs S1 H1 w1 o1 m1 p1 => by
  obtain ⟨hl, p1⟩ := p1.gd
  exact ⟨by rw [RpA.length m1]; exact hl, fun q hq => p1.laid o1.ex hq (.tup upd_same (RpA.mono (Ex.new (o1.ex.nn hq)) m1))⟩
theorem de_lst (h : PA X es (tAs c G fs)) : PE X (.List es pos) (tO c G (dLst fs)) := pe_imp (pe_lst h) fun σ H Q ⟨S0, H0, S, r, ok, p⟩ => rd_seq ok p fun ds vs S1 H1 w1 o1 m1 p1 => by
  obtain ⟨hl, p1⟩ := p1.gd
  exact ⟨by rw [RpA.length m1]; exact hl, fun q hq => (p1.anti w1.h).kept o1.ex hq (.lst m1)⟩
def CallS (c : Cf) (R : Md V D) (r : List V → Hp → VK → Prop) (ms : List Bool) (g : List D → Res D) : Prop := ∀ (σ : St) (S H : Hp) (vs : List V) (ds : List D) (Q : VK), Ex S H → RpM c S H ms vs ds →
  PostG c σ S H (g ds) (fun a S' H' => ∀ b, R H S' H' b a → Q b H') → r vs H Q
def dCall (g : List D → Res D) (fs : Rho → Res (List D)) : Rho → Res D := fun r => (fs r).bind g
theorem de_bltn {R : Md V D} [Anti R] {x : Str} {id : String} {ms : List Bool} {r : List V → Hp → VK → Prop} {g : List D → Res D} (hc : CallR X (.builtin id) r) (hs : CallS c R r ms g) (hg : Gl X x) (hm : X.mg x = none) (hv : bootBuiltins x = some (.builtin id)) (ha : PA X (e :: es) (tM c G ms fs))
    (hn : x ≠ "__name__" := by decide) (hdb : (x == ("__debug__" : Str)) = false := by decide) (he : starEach (e :: es) X.env = (false, eval e X.env) :: starEach es X.env := by rfl) (hpl : (backTo pos (starEach es X.env)).any (·.1) = false := by rfl) :
    PE X (.Call (.Name x p) (e :: es) [] pos) (rd c G (dCall g fs) R) := pe_imp (pe_callB hc hg hm hv ha hn hdb he hpl) fun σ H Q ⟨S0, H0, S, r, ok, p⟩ => rd_seq ok p fun ds vs S1 H1 w1 o1 m1 p1 => hs σ S1 H1 vs ds Q o1.ex m1 (p1.anti w1.h)
theorem de_type {R : Md V D} [Anti R] {x : Str} {T : String} {ms : List Bool} {r : List V → Hp → VK → Prop} {g : List D → Res D} (hc : CallR X (.type T) r) (hs : CallS c R r ms g) (hg : Gl X x) (hm : X.mg x = none) (hv : bootBuiltins x = some (.type T)) (ha : PA X (e :: es) (tM c G ms fs))
    (hn : x ≠ "__name__" := by decide) (hdb : (x == ("__debug__" : Str)) = false := by decide) (he : starEach (e :: es) X.env = (false, eval e X.env) :: starEach es X.env := by rfl) (hpl : (backTo pos (starEach es X.env)).any (·.1) = false := by rfl) :
    PE X (.Call (.Name x p) (e :: es) [] pos) (rd c G (dCall g fs) R) := pe_imp (pe_callTy hc hg hm hv ha hn hdb he hpl) fun σ H Q ⟨S0, H0, S, r, ok, p⟩ => rd_seq ok p fun ds vs S1 H1 w1 o1 m1 p1 => hs σ S1 H1 vs ds Q o1.ex m1 (p1.anti w1.h)
theorem RpM.one {S H : Hp} {vs : List V} {ds : List D} (h : RpM c S H [true] vs ds) : ∃ v d, vs = [v] ∧ ds = [d] ∧ RpB c.K c.cm S H v d := by
  match vs, ds, h with
  | [v], [d], h => exact ⟨v, d, rfl, rfl, h.1⟩
  | _ :: _ :: _, [_], h => exact h.2.elim
  | [_], _ :: _ :: _, h => exact h.2.elim
  | _ :: _ :: _, _ :: _ :: _, h => exact h.2.elim
  | [], _, h => exact h.elim
  | _ :: _, [], h => exact h.elim
theorem RpM.two {S H : Hp} {vs : List V} {ds : List D} (h : RpM c S H [true, true] vs ds) : ∃ v w d e, vs = [v, w] ∧ ds = [d, e] ∧ RpB c.K c.cm S H v d ∧ RpB c.K c.cm S H w e := by
  match vs, ds, h with
  | v :: vs, d :: ds, h =>
    obtain ⟨w, e, rfl, rfl, h2⟩ := RpM.one h.2
    exact ⟨v, w, d, e, rfl, rfl, h.1, h2⟩
  | [], _, h => exact h.elim
  | _ :: _, [], h => exact h.elim
/-- len -/
noncomputable def lenD : D → Res D
  | .str z => guard (z.length ≤ sizeLine) (.ok (.int z.length))
  | .lst ds => .ok (.int ds.length)
  | .fz ds => .ok (.int ds.length)
  | .tup ds => .ok (.int ds.length)
  | .kt ds => .ok (.int ds.length)
  | _ => .bad
def g1 (g : D → Res D) : List D → Res D
  | [d] => g d
  | _ => .bad
def g2 (g : D → D → Res D) : List D → Res D
  | [d, e] => g d e
  | _ => .bad
theorem cs_len : CallS c (mV c) (fun xs H Q => ∃ x n, xs = [x] ∧ LenV c.K x H n ∧ Q (.int n) H) [true] (g1 lenD) := by
  intro σ S H vs ds Q ex m p
  obtain ⟨v, d, rfl, rfl, h⟩ := m.one
  cases d with
  | str z =>
    obtain ⟨hl, p⟩ := p.gd
    cases h.str
    exact ⟨_, _, rfl, ⟨hl, rfl⟩, p.here ex (.int _)⟩
  | lst ds =>
    obtain ⟨q, xs, rfl, a1, r1⟩ := h.list ex
    exact ⟨_, _, rfl, .inl ⟨xs, .inl (.inl a1), r1.length.symm⟩, p.here ex (.int _)⟩
  | fz ds =>
    obtain ⟨q, xs, rfl, a1, r1⟩ := h.fz ex
    exact ⟨_, _, rfl, .inl ⟨xs, a1, r1.length.symm⟩, p.here ex (.int _)⟩
  | tup ds =>
    obtain ⟨q, xs, rfl, a1, r1, s1⟩ := h.tup ex
    exact ⟨_, _, rfl, .inr ⟨xs, a1, r1.length.symm⟩, p.here ex (.int _)⟩
  | kt ds =>
    obtain ⟨q, xs, rfl, a1, r1, s1⟩ := h.kt ex
    exact ⟨_, _, rfl, .inr ⟨xs, a1, r1.length.symm⟩, p.here ex (.int _)⟩
  | _ => exact p.elim
/-- int(..) -/
noncomputable def intD : D → Res D
  | .int i => .ok (.int i)
  | .bl k => .ok (.int (if k then 1 else 0))
  | .str a => match PySem.intText? a with
    | some n => guard (a.length ≤ 640) (.ok (.int n))
    | none => .bad
  | _ => .bad
def rIntX : List V → Hp → VK → Prop := fun xs H Q => ((∃ i, xs = [.int i] ∧ Q (.int i) H) ∨ ∃ k, xs = [.bl k] ∧ Q (.int (if k then 1 else 0)) H) ∨ ∃ a n, xs = [.str a] ∧ PySem.intText? a = some n ∧ a.length ≤ 640 ∧ Q (.int n) H
theorem cr_int : CallR X (.type "int") rIntX := call_int1.or call_int_str
theorem cs_int : CallS c (mV c) rIntX [true] (g1 intD) := by
  intro σ S H vs ds Q ex m p
  obtain ⟨v, d, rfl, rfl, h⟩ := m.one
  cases d with
  | int i => cases h.int; exact .inl (.inl ⟨_, rfl, p.here ex (.int _)⟩)
  | bl k => cases h.bl; exact .inl (.inr ⟨_, rfl, p.here ex (.int _)⟩)
  | str a =>
    cases h.str
    unfold g1 intD at p
    dsimp only at p
    split at p
    · rename_i n hn
      obtain ⟨hl, p⟩ := p.gd
      exact .inr ⟨_, n, rfl, hn, hl, p.here ex (.int _)⟩
    · exact p.elim
  | _ => exact p.elim
def absD : D → Res D
  | .int i => .ok (.int (if i < 0 then -i else i))
  | _ => .bad
theorem cs_ints2 {g : Int → Int → Int} : CallS c (mV c) (fun xs H Q => ∃ i j, xs = [.int i, .int j] ∧ Q (.int (g i j)) H) [true, true] (g2 (intsD g)) := by
  intro σ S H vs ds Q ex m p
  obtain ⟨v, w, d, e, rfl, rfl, h, h'⟩ := m.two
  unfold g2 intsD at p
  dsimp only at p
  split at p
  · cases h.int; cases h'.int; exact ⟨_, _, rfl, p.here ex (.int _)⟩
  · exact p.elim
abbrev max2 (i j : Int) : Int := if j > i then j else i
/-- list(..), tuple(..) -/
def itemsL : D → Res (List D)
  | .lst ds => .ok ds
  | .fz ds => .ok ds
  | _ => .bad
def itemsT : D → Res (List D)
  | .tup ds => .ok ds
  | _ => .bad
def items : D → Res (List D)
  | .lst ds => .ok ds
  | .fz ds => .ok ds
  | .tup ds => .ok ds
  | _ => .bad
def listD (d : D) : Res D := match d with
  | .kt ds => .ok (.lst ds)
  | d => (items d).bind fun ds => .ok (.lst ds)
def tupleD (d : D) : Res D := (items d).bind fun ds => .ok (.tup ds)
theorem cs_tuple : CallS c (mV c) (fun xs H Q => ∃ p ys, xs = [.ref p] ∧ ((SqL c.K H p ys ∧ ∀ l, H l = none → Q (.ref l) (upd H l (.tup ys))) ∨ (SqT c.K H p ys ∧ Q (.ref p) H))) [true] (g1 tupleD) := by
  intro σ S H vs ds Q ex m p
  obtain ⟨v, d, rfl, rfl, h⟩ := m.one
  cases d with
  | lst ds =>
    obtain ⟨q, xs, rfl, a1, r1⟩ := h.list ex
    exact ⟨q, xs, rfl, .inl ⟨.inl (.inl a1), fun l hl => p.laid ex hl (.tup upd_same (r1.mono (Ex.new (ex.nn hl))))⟩⟩
  | fz ds =>
    obtain ⟨q, xs, rfl, a1, r1⟩ := h.fz ex
    exact ⟨q, xs, rfl, .inl ⟨a1, fun l hl => p.laid ex hl (.tup upd_same (r1.mono (Ex.new (ex.nn hl))))⟩⟩
  | tup ds =>
    obtain ⟨q, xs, rfl, a1, r1, s1⟩ := h.tup ex
    exact ⟨q, xs, rfl, .inr ⟨a1, p.here ex (.tup s1 r1)⟩⟩
  | _ => exact p.elim
/-- str(n), str(text) is not here: see part T -/
noncomputable def strD : D → Res D
  | .int i => guard (i.natAbs.log2 < 1920) (.ok (.str (toString i)))
  | _ => .bad
def tyN : D → Option String
  | .non => some "NoneType"
  | .bl _ => some "bool"
  | .int _ => some "int"
  | .str _ => some "str"
  | .lst _ => some "list"
  | .fz _ => some "list"
  | .tup _ => some "tuple"
  | .kt _ => some "tuple"
  | .dk _ _ => some "dict"
  | .dt _ _ => none
  | .obj _ _ _ => none
  | .own _ => none
  | .st _ _ => none
def isiD (T : String) (d : D) : Res D := match tyN d with
  | some n => match kitB n T with
    | some b => .ok (.bl b)
    | none => .bad
  | none => .bad
theorem RpB.ty {K : PySem.W.Frag} {cm : CM} {S H : Hp} {v : V} {d : D} {n : String} (h : RpB K cm S H v d) (ex : Ex S H) (q : tyN d = some n) : TyX K H v (.type n) := by
  cases d with
  | non => cases h.non; cases q; exact .base .non
  | bl b => cases h.bl; cases q; exact .base (.bl b)
  | int i => cases h.int; cases q; exact .base (.int i)
  | str s => cases h.str; cases q; exact .base (.str s)
  | lst ds => obtain ⟨p, xs, rfl, a, r⟩ := h.list ex; cases q; exact .base (.lst a)
  | fz ds =>
    obtain ⟨p, xs, rfl, a, r⟩ := h.fz ex; cases q
    rcases a with (a | ⟨o, a⟩) | ⟨o, its, m, a1, a2, _⟩
    · exact .base (.lst a)
    · exact .base (.frz a)
    · exact .kList a1 a2
  | tup ds =>
    obtain ⟨p, xs, rfl, a, r, s⟩ := h.tup ex; cases q
    rcases a with (a | ⟨o, a⟩) | ⟨o, its, m, a1, a2, _⟩
    · exact .base (.tup a)
    · exact .fTuple a
    · exact .kTuple a1 a2
  | dk ks vs =>
    obtain ⟨p, xs, rfl, a, r⟩ := h.dk ex; cases q
    rcases a with a | ⟨o, a⟩
    · exact .base (.dK a)
    · exact .fDict a
  | dt ks vs => cases q
  | kt ds =>
    obtain ⟨p, xs, rfl, a, r, s⟩ := h.kt ex; cases q
    rcases a with (a | ⟨o, a⟩) | ⟨o, its, m, a1, a2, _⟩
    · exact .base (.tup a)
    · exact .fTuple a
    · exact .kTuple a1 a2
  | obj n ns vs => cases q
  | own k => cases q
  | st k M => cases q
/-- the class's name is a built-in's that stands as it was -/
theorem de_isi {x : Str} {pT : Pos} (T : String) (hm : X.mg "isinstance" = none) (hg : Gl X "isinstance") (gT : Gl X x) (mT : X.mg x = none) (bT : bootBuiltins x = some (.type T)) (ha : PE X e (tR c G f)) (hK : c.K = X.K := by rfl)
    (hn : x ≠ "__name__" := by decide) (hd : (x == ("__debug__" : Str)) = false := by decide)
    (hs1 : starEach [e, .Name x pT] X.env = (false, eval e X.env) :: starEach [.Name x pT] X.env := by rfl) (hs2 : starEach [.Name x pT] X.env = (false, eval (.Name x pT) X.env) :: starEach [] X.env := by rfl) (hpl : (backTo pos (starEach [.Name x pT] X.env)).any (·.1) = false := by rfl) :
    PE X (.Call (.Name "isinstance" p) [e, .Name x pT] [] pos) (tV c G (dUn (isiD T) f)) := by
  have hT : PE X (.Name x pT) (tC (.ty T)) := pe_bltn gT mT bT rfl hn hd
  refine pe_imp (pe_callB call_isi hg hm (by decide +kernel) (pa_cons ha (pa_cons hT pa_nil hs2) hs1) (he := hs1) (hpl := hpl)) fun σ H Q ⟨S0, H0, S, r, ok, p⟩ => rd_seq ok p fun d v S1 H1 w1 o1 m1 p1 => ?_
  unfold isiD at p1
  split at p1
  · rename_i n hn
    split at p1
    · rename_i b hb
      exact ⟨v, .ty T, .type n, .type T, b, rfl, .ty T, by rw [← hK]; exact RpB.ty m1 o1.ex hn, kit_ty hb, p1.go o1.ex _ (.bl _)⟩
    · exact p1.elim
  · exact p1.elim
noncomputable def ixD : D → D → Res D
  | .lst ds, .int i => match atI ds i with
    | some d => .ok d
    | none => .bad
  | .fz ds, .int i => match atI ds i with
    | some d => .ok d
    | none => .bad
  | .tup ds, .int i => match atI ds i with
    | some d => .ok d
    | none => .bad
  | .kt ds, .int i => match atI ds i with
    | some d => .ok d
    | none => .bad
  | .str z, .int i => guard (z.length ≤ sizeLine) (match atI z.cps.toList i with
    | some n => .ok (.str ⟨#[n]⟩)
    | none => .bad)
  | _, _ => .bad
theorem RpA.atI {K : PySem.W.Frag} {cm : CM} {S : Hp} {xs : List V} {ds : List D} {i : Int} {d : D} (h : RpA K cm S xs ds) (q : atI ds i = some d) : ∃ v, L2.atI xs i = some v ∧ Rp K cm S v d := by
  unfold L2.atI at q ⊢
  rw [h.length]
  cases hj : ixN ds.length i with
  | none => rw [hj] at q; cases q
  | some j => rw [hj] at q; exact h.get q
theorem os_ix : OpS c (mV c) (rIx c.K) ixD := by
  intro σ S H x y d e Q ex hx hy p
  unfold ixD at p
  split at p
  · split at p
    · rename_i hd
      obtain ⟨q, xs, rfl, a1, r1⟩ := hx.list ex
      cases hy.int
      obtain ⟨v, h1, h2⟩ := r1.atI hd
      exact .inl ⟨q, xs, _, v, rfl, rfl, .inl (.inl a1), h1, p.here ex h2⟩
    · exact p.elim
  · split at p
    · rename_i hd
      obtain ⟨q, xs, rfl, a1, r1⟩ := hx.fz ex
      cases hy.int
      obtain ⟨v, h1, h2⟩ := r1.atI hd
      exact .inl ⟨q, xs, _, v, rfl, rfl, a1, h1, p.here ex h2⟩
    · exact p.elim
  · split at p
    · rename_i hd
      obtain ⟨q, xs, rfl, a1, r1, s1⟩ := hx.tup ex
      cases hy.int
      obtain ⟨v, h1, h2⟩ := r1.atI hd
      exact .inr (.inl ⟨q, xs, _, v, rfl, rfl, a1, h1, p.here ex h2⟩)
    · exact p.elim
  · split at p
    · rename_i hd
      obtain ⟨q, xs, rfl, a1, r1, s1⟩ := hx.kt ex
      cases hy.int
      obtain ⟨v, h1, h2⟩ := r1.atI hd
      exact .inr (.inl ⟨q, xs, _, v, rfl, rfl, a1, h1, p.here ex h2⟩)
    · exact p.elim
  · obtain ⟨hl, p⟩ := p.gd
    cases hx.str; cases hy.int
    split at p
    · rename_i hd
      exact .inr (.inr ⟨_, _, _, rfl, rfl, hl, hd, p.here ex (.str _)⟩)
    · exact p.elim
  · exact p.elim
theorem de_ix (ha : PE X a (tR c G f1)) (hb : PE X b (tR c G f2)) (hs : PlainIx b) (hK : c.K = X.K := by rfl) : PE X (.Subscript a b pos) (tV c G (dOp ixD f1 f2)) :=
  pe_imp (pe_ix ix_seq ha hb hs) (by rw [← hK]; exact op_rd os_ix)
def cutL {α : Type} (xs : List α) (lo hi : Option Int) : List α := (xs.drop (HT.sIx xs.length 0 lo)).take (HT.sIx xs.length xs.length hi - HT.sIx xs.length 0 lo)
def asI : D → Res Int
  | .int i => .ok i
  | _ => .bad
def dNoP : Rho → Res (Option Int) := fun _ => .ok none
def dPart (f : Rho → Res D) : Rho → Res (Option Int) := fun r => (f r).bind fun d => (asI d).bind fun i => .ok (some i)
theorem po_imp {oe : Option Expr} {t t' : TO} (h : PO X oe t) (k : ∀ σ H Q, t' σ H Q → t σ H Q) : PO X oe t' := ⟨fun pins s σ H Q I q => h.run pins s σ H Q I (k σ H Q q)⟩
abbrev tP (c : Cf) (G : List Ow) (f : Rho → Res (Option Int)) : TO := rd c G f (mE (Option Int))
theorem dp_none : PO X none (tP c G dNoP) := po_imp po_none fun σ H Q ⟨S0, H0, S, r, ok, p⟩ => p.go ok.ex _ rfl
theorem of_asI {σ : St} {S H : Hp} {d : D} {k : Int → Hp → Hp → Prop} (p : PostG c σ S H (asI d) k) : ∃ i, d = .int i ∧ PostG c σ S H (.ok i) k := by
  cases d with
  | int i => exact ⟨i, rfl, p⟩
  | _ => exact p.elim
theorem dp_some (h : PE X e (tV c G f)) : PO X (some e) (tP c G (dPart f)) := po_imp (po_some h) fun σ H Q ⟨S0, H0, S, r, ok, p⟩ => rd_seq ok p fun d v S1 H1 w1 o1 m1 p1 => by
  obtain ⟨i, rfl, q1⟩ := of_asI p1.unbind
  cases m1
  exact ⟨i, rfl, (q1.go o1.ex).go o1.ex _ rfl⟩
variable {fl fh : Rho → Res (Option Int)} {lo hi : Option Expr} {p2 : Pos}
noncomputable def slD (d : D) (lo hi : Option Int) : Res D := match d with
  | .lst ds => .ok (.lst (cutL ds lo hi))
  | .fz ds => .ok (.lst (cutL ds lo hi))
  | .tup ds => .ok (.tup (cutL ds lo hi))
  | .str z => guard (z.length ≤ sizeLine) (.ok (.str (cutS z lo hi)))
  | _ => .bad
def dSl (g : D → Option Int → Option Int → Res D) (f : Rho → Res D) (fl fh : Rho → Res (Option Int)) : Rho → Res D := fun r => (f r).bind fun d => (fl r).bind fun l => (fh r).bind fun h => g d l h
def rSlX (K : PySem.W.Frag) : V → Option Int → Option Int → Hp → VK → Prop := fun x lo hi H Q => rSlL K x lo hi H Q ∨ rSlA K x lo hi H Q ∨ rSlS x lo hi H Q
theorem sl_x : SlR X (rSlX X.K) := sl_list.or (sl_tupA.or sl_str)
theorem RpA.cut {K : PySem.W.Frag} {cm : CM} {S : Hp} {xs : List V} {ds : List D} {lo hi : Option Int} (h : RpA K cm S xs ds) : RpA K cm S (cutV xs lo hi) (cutL ds lo hi) := by
  unfold cutV cutL
  rw [h.length]
  exact (h.drop _).take _
theorem cutV_whole {xs : List V} {lo hi : Option Int} (h : HT.sIx xs.length 0 lo = 0 ∧ HT.sIx xs.length xs.length hi = xs.length) : cutV xs lo hi = xs := by
  unfold cutV
  rw [h.1, h.2]
  simp
theorem de_sl (ha : PE X a (tR c G f)) (hl : PO X lo (tP c G fl)) (hh : PO X hi (tP c G fh)) (hK : c.K = X.K := by rfl) : PE X (.Subscript a (.Slice lo hi none p2) pos) (tV c G (dSl slD f fl fh)) :=
  pe_imp (pe_slice sl_x ha hl hh) fun σ H Q ⟨S0, H0, S, r, ok, p⟩ => rd_seq ok p fun d v S1 H1 w1 o1 m1 p1 => rd_seq o1 p1 fun l l' S2 H2 w2 o2 m2 p2 => rd_seq o2 p2 fun h h' S3 H3 w3 o3 m3 p3 => by
    have m1 := RpB.mono m1 (w2.s.trans w3.s) (w2.h.trans w3.h)
    rw [show l' = l from m2, show h' = h from m3, ← hK]
    cases d with
    | lst ds =>
      obtain ⟨q, xs, rfl, a1, r1⟩ := m1.list o3.ex
      exact .inl ⟨q, xs, rfl, .inl (.inl a1), fun q hq => PostG.laid p3 o3.ex hq (.lst upd_same (r1.cut.mono (Ex.new (o3.ex.nn hq))))⟩
    | fz ds =>
      obtain ⟨q, xs, rfl, a1, r1⟩ := m1.fz o3.ex
      exact .inl ⟨q, xs, rfl, a1, fun q hq => PostG.laid p3 o3.ex hq (.lst upd_same (r1.cut.mono (Ex.new (o3.ex.nn hq))))⟩
    | tup ds =>
      obtain ⟨q, xs, rfl, a1, r1, s1⟩ := m1.tup o3.ex
      refine .inr (.inl ⟨q, xs, rfl, a1, fun hw => p3.go o3.ex _ (.tup s1 ?_), fun _ q hq => PostG.laid p3 o3.ex hq (.tup upd_same (r1.cut.mono (Ex.new (o3.ex.nn hq))))⟩)
      have := r1.cut (lo := l) (hi := h)
      rw [cutV_whole hw] at this
      exact this
    | str z =>
      obtain ⟨hl, p3⟩ := p3.gd
      cases m1.str
      exact .inr (.inr ⟨z, rfl, hl, p3.go o3.ex _ (.str _)⟩)
    | _ => exact p3.elim
/-- a slice of a list, the new list one's own -/
def slL (d : D) (lo hi : Option Int) : Res D := match d with
  | .lst ds => .ok (.lst (cutL ds lo hi))
  | .fz ds => .ok (.lst (cutL ds lo hi))
  | _ => .bad
end
end Dx
end S_DxD
section S_DxE
set_option Elab.async false
set_option linter.all false
set_option maxRecDepth 100000
set_option maxHeartbeats 2000000
namespace Dx
open PySem L2
/-- what is wanted behind a statement -/
def PostS (c : Cf) (S0 H0 : Hp) (L G' : List Ow) (o : SR) (E : Ends) : Prop :=
  match o with
  | .nx r => ∀ σ' S' H', EnvOk c S0 H0 G' S' H' σ' r → E.nx σ' H'
  | .rt d => if c.rm then ∀ p ho S' H', Fwd S0 H0 S' H' → H0 p = none → S' p = none → H' p = some ho → RpO c.K c.cm S' ho d → E.rt (.ref p) H'
      else ∀ v S' H', Fwd S0 H0 S' H' → Rp c.K c.cm S' v d → E.rt v H'
  | .bk r => ∀ σ' S' H', EnvOk c S0 H0 L S' H' σ' r → E.bk σ' H'
  | .ct r => ∀ σ' S' H', EnvOk c S0 H0 L S' H' σ' r → E.ct σ' H'
  | .er r n ns vs => ∀ C dd σ' S' H' fs, c.cm n = some C → Fwd S0 H0 S' H' → (∀ g, c.ge = some g → EnvOk c S0 H0 g S' H' σ' r) → S' dd = some (.xd fs) → ns = fs.map (·.1) → RpA c.K c.cm S' (fs.map (·.2)) vs → c.W (.ref C) (some dd) σ' H'
  | .bad => False
def sD (c : Cf) (L G G' : List Ow) (F : Rho → SR) : TS := fun E σ H => ∃ S0 H0 S r, EnvOk c S0 H0 G S H σ r ∧ PostS c S0 H0 L G' (F r) E
def liftS {α : Type} (r : Rho) (x : Res α) (k : α → SR) : SR := match x with
  | .ok a => k a
  | .err n ns vs => .er r n ns vs
  | .bad => .bad
/-- where a try's clauses ask for the slots, the kinds are the ones told -/
def Gok (c : Cf) (G : List Ow) : Prop := ∀ g, c.ge = some g → g = G
section
variable {X : Cx} {c : Cf} {L G G' G'' : List Ow} {σ : St} {S0 H0 S H : Hp} {r : Rho} {α β : Type} {E : Ends}
theorem st_seq {f : Rho → Res α} {R : Md β α} (hg : Gok c G) (e : EnvOk c S0 H0 G S H σ r) {k : α → SR} (p : PostS c S0 H0 L G' (liftS r (f r) k) E) {Q : β → Hp → Prop}
    (h : ∀ a b S' H', Fwd S H S' H' → EnvOk c S0 H0 G S' H' σ r → R H S' H' b a → PostS c S0 H0 L G' (k a) E → Q b H') : rd c G f R σ H Q := by
  refine ⟨S0, H0, S, r, e, ?_⟩
  cases hf : f r with
  | ok a => rw [hf] at p; exact fun S' H' fw b hb => h a b S' H' fw (e.go fw) hb p
  | err n ns vs =>
    rw [hf] at p
    exact fun C dd S' H' fs h1 fw h2 h3 h4 => p C dd σ S' H' fs h1 (e.fwd.trans fw) (fun g q => by rw [hg g q]; exact e.go fw) h2 h3 h4
  | bad => rw [hf] at p; exact p.elim
/-- the stable part as the new base -/
theorem EnvOk.rebase (e : EnvOk c S0 H0 G S H σ r) : EnvOk c S H0 G S H σ r := ⟨⟨Ex.refl, e.fwd.h, e.fwd.sub, fun a o h n => by rw [n] at h; cases h⟩, e.len, e.slot, e.sep, e.sto⟩
theorem Fwd.unbase {S' H' : Hp} (f : Fwd S0 H0 S H) (g : Fwd S H0 S' H') : Fwd S0 H0 S' H' := ⟨f.s.trans g.s, g.h, g.sub, fun a o h n => by
  cases q : S a with
  | some u => exact f.new a u q n
  | none => exact g.new a o h q⟩
theorem EnvOk.unbase {S' H' : Hp} {σ' : St} {r' : Rho} (f : Fwd S0 H0 S H) (e : EnvOk c S H0 G' S' H' σ' r') : EnvOk c S0 H0 G' S' H' σ' r' := ⟨f.unbase e.fwd, e.len, e.slot, e.sep, e.sto⟩
theorem PostS.rebase {o : SR} (f : Fwd S0 H0 S H) (p : PostS c S0 H0 L G' o E) : PostS c S H0 L G' o E := by
  cases o with
  | nx r => exact fun σ' S' H' e => p σ' S' H' (e.unbase f)
  | rt d =>
    unfold PostS at p ⊢
    dsimp only at p ⊢
    split
    · rename_i h
      rw [if_pos h] at p
      exact fun q ho S' H' w => p q ho S' H' (f.unbase w)
    · rename_i h
      rw [if_neg h] at p
      exact fun v S' H' w => p v S' H' (f.unbase w)
  | bk r => exact fun σ' S' H' e => p σ' S' H' (e.unbase f)
  | ct r => exact fun σ' S' H' e => p σ' S' H' (e.unbase f)
  | er r n ns vs => exact fun C dd σ' S' H' fs h1 w h2 => p C dd σ' S' H' fs h1 (f.unbase w) fun g q => (h2 g q).unbase f
  | bad => exact p
def seqF (F K : Rho → SR) : Rho → SR := fun r => match F r with
  | .nx r' => K r'
  | o => o
theorem ds_nil : PSs X [] (sD c L G G .nx) := pss_imp pss_nil fun E σ H ⟨S0, H0, S, r, ok, p⟩ => p σ S H ok
theorem ds_cons {st : Stmt} {rest : List Stmt} {F K : Rho → SR} (h1 : PS X st (sD c L G G' F)) (h2 : PSs X rest (sD c L G' G'' K)) : PSs X (st :: rest) (sD c L G G'' (seqF F K)) := pss_imp (pss_cons h1 h2) fun E σ H ⟨S0, H0, S, r, ok, p⟩ => by
  refine ⟨S0, H0, S, r, ok, ?_⟩
  unfold seqF at p
  cases hF : F r with
  | nx r' => rw [hF] at p; exact fun σ' S' H' e => ⟨S0, H0, S', r', e, p⟩
  | rt d => rw [hF] at p; exact p
  | bk r' => rw [hF] at p; exact p
  | ct r' => rw [hF] at p; exact p
  | er r' n ns vs => rw [hF] at p; exact p
  | bad => rw [hF] at p; exact p.elim
theorem ds_one {st : Stmt} {F : Rho → SR} (h1 : PS X st (sD c L G G' F)) : PSs X [st] (sD c L G G' F) := pss_one h1
/-- an own object becomes a value, ahead of a block; behind one -/
theorem EnvOk.pubL (e : EnvOk c S0 H0 G S H σ r) (i : Nat) (hk : kd G i = .o ∨ kd G i = .v) : Lo (fun H => ∃ S', EnvOk c S0 H0 (G.set i .v) S' H σ r) H := by
  by_cases h : kd G i = .o ∧ ∃ d, r[i]? = some (some d) ∧ isDct d = true
  · obtain ⟨k, d, h1, h2⟩ := h
    exact .inr (e.pubD i k h1 h2)
  · by_cases k : kd G i = .o
    · exact .inl (e.pub i hk fun d hd => by
        cases q : isDct d with
        | false => rfl
        | true => exact (h ⟨k, d, hd, q⟩).elim)
    · have k' : kd G i = .v := hk.resolve_left k
      have all : ∀ j, kd (G.set i .v) j = kd G j := fun j => by
        by_cases ne : i = j
        · subst ne; rw [kd_set_self, k']
        · exact kd_set_ne ne
      exact .inl ⟨S, e.fwd, e.len, fun j b hb => by rw [all]; exact e.slot j b hb, fun j l b b' q hj hk kj kk sj sk => e.sep j l b b' q hj hk ((all j) ▸ kj) ((all l) ▸ kk) sj sk, e.sto_un i hk⟩
theorem Lo.imp {Q R : Hp → Prop} {H : Hp} (h : Lo Q H) (k : ∀ H, Q H → R H) : Lo R H := by
  rcases h with h | ⟨p, u, h1, h2, h⟩
  · exact .inl (k _ h)
  · exact .inr ⟨p, u, h1, h2, fun w => k _ (h w)⟩
theorem ds_pub {sts : List Stmt} {F : Rho → SR} (i : Nat) (h : PSs X sts (sD c L (G.set i .v) G' F)) (hk : kd G i = .o ∨ kd G i = .v) : PSs X sts (sD c L G G' F) := pss_lock h fun E σ H ⟨S0, H0, S, r, ok, p⟩ =>
  (ok.pubL i hk).imp fun H' ⟨S', ok'⟩ => ⟨S0, H0, S', r, ok', p⟩
variable {e : Expr} {pos : Pos} {f : Rho → Res D}
def setF (i : Nat) (f : Rho → Res D) : Rho → SR := fun r => liftS r (f r) fun d => .nx (r.set i (some d))
/-- x = e -/
theorem ds_set (i : Nat) {x : Str} {pos' : Pos} (hg : Gok c G) (hN : X.N.Nodup) (hi : X.N[i]? = some x) (hx : Loc X.env.scope x) (he : PE X e (tV c G f)) (hs : swapsWith e (some (.Name x pos')) pos.line X.env = pure false := by rfl)
    (hf : X.fn x = true ∨ X.env.scope.names.lookup x = some .local := by first | exact .inl rfl | exact .inr rfl | assumption) : PS X (.Assign [.Name x pos'] e pos) (sD c L G (G.set i .v) (setF i f)) :=
  ps_imp (ps_set hN hi hx he hs hf) fun E σ H ⟨S0, H0, S, r, ok, p⟩ => st_seq hg ok p fun d v S1 H1 w1 o1 m1 p1 => p1 _ S1 H1 (o1.setV i m1)
/-- x = e, a new object of one's own -/
theorem ds_setO (i : Nat) {x : Str} {pos' : Pos} (hg : Gok c G) (hG : i < G.length) (hN : X.N.Nodup) (hi : X.N[i]? = some x) (hx : Loc X.env.scope x) (he : PE X e (tO c G f)) (hs : swapsWith e (some (.Name x pos')) pos.line X.env = pure false := by rfl)
    (hf : X.fn x = true ∨ X.env.scope.names.lookup x = some .local := by first | exact .inl rfl | exact .inr rfl | assumption) : PS X (.Assign [.Name x pos'] e pos) (sD c L G (G.set i .o) (setF i f)) :=
  ps_imp (ps_set hN hi hx he hs hf) fun E σ H ⟨S0, H0, S, r, ok, p⟩ => st_seq hg ok p fun d v S1 H1 w1 o1 m1 p1 => by
    obtain ⟨q, ho, rfl, n, ns, hp, h⟩ := m1
    exact p1 _ S1 H1 (ok.setO w1 i hG n ns hp h)
def retF (f : Rho → Res D) : Rho → SR := fun r => liftS r (f r) .rt
theorem ds_ret (hg : Gok c G) (hr : c.rm = false) (he : PE X e (tV c G f)) : PS X (.Return (some e) pos) (sD c L G G' (retF f)) := ps_imp (ps_ret he) fun E σ H ⟨S0, H0, S, r, ok, p⟩ => st_seq hg ok p fun d v S1 H1 w1 o1 m1 p1 => by
  unfold PostS at p1
  rw [hr] at p1
  exact p1 v S1 H1 o1.fwd m1
def dropF {α : Type} (f : Rho → Res α) : Rho → SR := fun r => liftS r (f r) fun _ => .nx r
theorem ds_expr {R : Md V D} (hg : Gok c G) (he : PE X e (rd c G f R)) (hs : swapsWith e none pos.line X.env = pure false := by rfl) : PS X (.Expr e pos) (sD c L G G (dropF f)) := ps_imp (ps_expr he hs) fun E σ H ⟨S0, H0, S, r, ok, p⟩ =>
  st_seq hg ok p fun d v S1 H1 w1 o1 m1 p1 => p1 σ S1 H1 o1
theorem ds_break : PS X (.Break pos) (sD c G G G' .bk) := ps_imp ps_break fun E σ H ⟨S0, H0, S, r, ok, p⟩ => p σ S H ok
theorem ds_cont : PS X (.Continue pos) (sD c G G G' .ct) := ps_imp ps_continue fun E σ H ⟨S0, H0, S, r, ok, p⟩ => p σ S H ok
def ifF (t : Rho → Res Bool) (F K : Rho → SR) : Rho → SR := fun r => liftS r (t r) fun b => if b = true then F r else K r
theorem ds_if {cnd : Expr} {sa sb : List Stmt} {t : Rho → Res Bool} {F K : Rho → SR} (hg : Gok c G) (hc : PT X cnd (tT c G t)) (ha : PSs X sa (sD c L G G' F)) (hb : PSs X sb (sD c L G G' K)) : PS X (.If cnd sa sb pos) (sD c L G G' (ifF t F K)) :=
  ps_imp (ps_if hc ha hb) fun E σ H ⟨S0, H0, S, r, ok, p⟩ => st_seq hg ok p fun x v S1 H1 w1 o1 m1 p1 => by
    rw [show v = x from m1]
    cases x with
    | true => exact ⟨S0, H0, S1, r, o1, p1⟩
    | false => exact ⟨S0, H0, S1, r, o1, p1⟩
variable {a b : Expr} {f1 f2 : Rho → Res D} {apos cpos p' : Pos}
/-- the own list in slot i -/
def ownL (i : Nat) (r : Rho) : Res (List D) := match r[i]? with
  | some (some (.lst ds)) => .ok ds
  | _ => .bad
theorem of_ownL {i : Nat} {k : List D → SR} (e : EnvOk c S0 H0 G S H σ r) (kd' : kd G i = .o) (p : PostS c S0 H0 L G' (liftS r (ownL i r) k) E) :
    ∃ q xs ds, r[i]? = some (some (.lst ds)) ∧ σ[i]? = some (some (.ref q)) ∧ H q = some (.lst xs) ∧ RpA c.K c.cm S xs ds ∧ PostS c S0 H0 L G' (k ds) E := by
  unfold ownL at p
  split at p
  · rename_i ds hd
    obtain ⟨q, ho, s1, s2, s3, s4, s5⟩ := e.own kd' hd
    cases s5 with
    | lst r1 => exact ⟨q, _, ds, hd, s1, s2, r1, p⟩
  · exact p.elim
noncomputable def guardS (p : Prop) (x : SR) : SR := @ite _ p (Classical.propDecidable p) x .bad
theorem guardS_pos {p : Prop} {x : SR} (h : p) : guardS p x = x := by unfold guardS; exact if_pos h
noncomputable def appF (i : Nat) (f : Rho → Res D) : Rho → SR := fun r => liftS r (ownL i r) fun ds => liftS r (f r) fun d => guardS (ds.length < sizeLine) (.nx (r.set i (some (.lst (ds ++ [d])))))
theorem PostS.ite {p : Prop} [Decidable p] {x : SR} (h : PostS c S0 H0 L G' (if p then x else .bad) E) : p ∧ PostS c S0 H0 L G' x E := by
  by_cases hp : p
  · rw [if_pos hp] at h; exact ⟨hp, h⟩
  · rw [if_neg hp] at h; exact h.elim
theorem PostS.gd {p : Prop} {x : SR} (h : PostS c S0 H0 L G' (guardS p x) E) : p ∧ PostS c S0 H0 L G' x E := by
  by_cases hp : p
  · rw [guardS_pos hp] at h; exact ⟨hp, h⟩
  · unfold guardS at h; rw [if_neg hp] at h; exact h.elim
theorem pe_app {o : Expr} {to te : TE} (ho : PE X o to) (he : PE X e te) (hbase : attributeBase o "append" X.env (eval o X.env) = eval o X.env := by rfl)
    (hfew : ((backTo cpos (starEach [e] X.env)).all (fun x => !x.1) && (backToKw cpos (keywordEach [] X.env)).all (fun x => x.1.isSome) && decide ([e].length + ([] : List Keyword).length + (if ([] : List Keyword).isEmpty then 0 else 1) < 30)) = true := by rfl)
    (hline : (apos.endLine == cpos.line) = true := by rfl) (hs : starEach [e] X.env = (false, eval e X.env) :: starEach [] X.env := by rfl) :
    PE X (.Call (.Attribute o "append" apos) [e] [] cpos) (tBM X.K "list" rAppend to (tCons te tNil)) :=
  pe_bm PySem.F.plainAttrs_list PySem.F.slot_list_append PySem.F.type_list_append mt_append ho (pa_cons he pa_nil hs) hbase hfew hline hs rfl
theorem ds_app (i : Nat) {x : Str} {pn : Pos} (hg : Gok c G) (k : kd G i = .o) (ho : PE X (.Name x pn) (tVar i)) (he : PE X e (tV c G f)) (hw : swapsWith (.Call (.Attribute (.Name x pn) "append" apos) [e] [] cpos) none pos.line X.env = pure false := by rfl)
    (hbase : attributeBase (.Name x pn) "append" X.env (eval (.Name x pn) X.env) = eval (.Name x pn) X.env := by rfl)
    (hfew : ((backTo cpos (starEach [e] X.env)).all (fun x => !x.1) && (backToKw cpos (keywordEach [] X.env)).all (fun x => x.1.isSome) && decide ([e].length + ([] : List Keyword).length + (if ([] : List Keyword).isEmpty then 0 else 1) < 30)) = true := by rfl)
    (hline : (apos.endLine == cpos.line) = true := by rfl) (hs : starEach [e] X.env = (false, eval e X.env) :: starEach [] X.env := by rfl) :
    PS X (.Expr (.Call (.Attribute (.Name x pn) "append" apos) [e] [] cpos) pos) (sD c L G G (appF i f)) :=
  ps_imp (ps_expr (pe_app ho he hbase hfew hline hs) hw) fun E σ H ⟨S0, H0, S, r, ok, p⟩ => by
    obtain ⟨q, xs, ds, hd, z1, z2, z3, p1⟩ := of_ownL ok k p
    refine ⟨.ref q, z1, .inl ⟨rfl, xs, .inl (.inl z2)⟩, st_seq hg ok p1 fun d v S1 H1 w1 o1 m1 p2 => ?_⟩
    obtain ⟨hl, p2⟩ := p2.gd
    exact ⟨q, xs, v, rfl, rfl, w1.h _ _ z2, by rw [z3.length]; exact hl, p2 σ S1 _ (o1.mut k hd z1 (.lst ((z3.mono w1.s).app (.one m1))))⟩
/-- x[i] = e, x an own list -/
def stoF (i : Nat) (fi f : Rho → Res D) : Rho → SR := fun r => liftS r (f r) fun d => liftS r (ownL i r) fun ds => liftS r (fi r) fun k => liftS r (asI k) fun k => match ixN ds.length k with
  | some j => .nx (r.set i (some (.lst (ds.set j d))))
  | none => .bad
theorem ds_sto (i : Nat) {x : Str} {pn : Pos} {ix : Expr} {fi : Rho → Res D} (hg : Gok c G) (k : kd G i = .o) (ho : PE X (.Name x pn) (tVar i)) (hi : PE X ix (tV c G fi)) (he : PE X e (tV c G f))
    (ha : ∀ v, assign (.Subscript (.Name x pn) ix p') X.env v = (do
      let ov ← holding [v] (eval (.Name x pn) X.env)
      let iv ← holding [v, ov] (eval ix X.env)
      standAt p'
      holding [v, ov, iv] (setItem ov iv v)
      release [v, ov, iv] []) := by intro _; rfl)
    (hs : swapsWithSole [.Subscript (.Name x pn) ix p'] e pos.line X.env = pure false := by rfl) (hw : swappedStores [.Subscript (.Name x pn) ix p'] e X.env = pure none := by rfl)
    (h1 : (assignEach [.Subscript (.Name x pn) ix p'] X.env).map (·.2) = [assign (.Subscript (.Name x pn) ix p') X.env] := by rfl) :
    PS X (.Assign [.Subscript (.Name x pn) ix p'] e pos) (sD c L G G (stoF i fi f)) :=
  ps_imp (ps_asg he (pg_sub ho hi set_list ha) hs hw h1) fun E σ H ⟨S0, H0, S, r, ok, p⟩ => st_seq hg ok p fun d v S1 H1 w1 o1 m1 p1 => by
    obtain ⟨q, xs, ds, hd, z1, z2, z3, p2⟩ := of_ownL o1 k p1
    refine ⟨.ref q, z1, st_seq hg o1 p2 fun kk u S2 H2 w2 o2 m2 p3 => ?_⟩
    cases kk with
    | int j =>
      cases m2
      dsimp only [asI, liftS] at p3
      split at p3
      · rename_i n hn
        refine ⟨q, xs, j, n, rfl, rfl, w2.h _ _ z2, by rw [z3.length]; exact hn, p3 σ S2 _ (o2.mut k hd z1 (.lst (RpA.set (Rp.mono w2.s m1) n (z3.mono w2.s))))⟩
      · exact p3.elim
    | _ => exact p3.elim
/-- what is wanted behind a target -/
def PostR (c : Cf) (S0 H0 S H : Hp) (G' : List Ow) (σ : St) (ks : List Nat) (x : Res Rho) (Q : St → Hp → Prop) : Prop := match x with
  | .ok r' => ∀ σ', wipe σ' ks = wipe σ ks → EnvOk c S0 H0 G' S H σ' r' → Q σ' H
  | _ => False
theorem wipe_get (σ : St) : ∀ (vs : List Nat) (i : Nat), (wipe σ vs)[i]? = if i ∈ vs then σ[i]?.map (fun _ => none) else σ[i]?
  | [], i => by simp [wipe]
  | v :: vs, i => by
    show ((wipe σ vs).set v none)[i]? = _
    by_cases h : v = i
    · subst h
      rw [List.getElem?_set, if_pos rfl, wipe_length, if_pos (List.mem_cons_self)]
      split
      · rename_i hl; simp [List.getElem?_eq_getElem hl]
      · rename_i hl; rw [List.getElem?_eq_none (by omega)]; rfl
    · rw [List.getElem?_set_ne h, wipe_get σ vs i]
      have : (i ∈ v :: vs) ↔ i ∈ vs := by simp [List.mem_cons, Ne.symm h]
      simp only [this]
theorem wipe_set {σ : St} {i : Nat} {x : Option V} : wipe (σ.set i x) [i] = wipe σ [i] := by
  show (σ.set i x).set i none = σ.set i none
  exact List.set_set _
theorem wipe_len {σ σ' : St} {ks : List Nat} (h : wipe σ' ks = wipe σ ks) : σ'.length = σ.length := by
  have := congrArg List.length h
  rw [wipe_length, wipe_length] at this
  exact this
theorem wipe_get_eq {σ σ' : St} {ks : List Nat} (h : wipe σ' ks = wipe σ ks) {i : Nat} (hi : i ∉ ks) : σ'[i]? = σ[i]? := by
  have := congrArg (fun l : St => l[i]?) h
  simp only [wipe_get, if_neg hi] at this
  exact this
theorem wipe_app {σ σ1 σ2 : St} {k1 k2 : List Nat} (h1 : wipe σ1 k1 = wipe σ k1) (h2 : wipe σ2 k2 = wipe σ1 k2) : wipe σ2 (k1 ++ k2) = wipe σ (k1 ++ k2) := by
  have l1 := wipe_len h1
  have l2 := wipe_len h2
  apply List.ext_getElem?
  intro i
  rw [wipe_get, wipe_get]
  by_cases hi : i ∈ k1 ++ k2
  · rw [if_pos hi, if_pos hi]
    by_cases hl : i < σ.length
    · rw [List.getElem?_eq_getElem hl, List.getElem?_eq_getElem (show i < σ2.length by omega)]; rfl
    · rw [List.getElem?_eq_none (by omega), List.getElem?_eq_none (by omega)]
  · rw [if_neg hi, if_neg hi]
    have a1 : i ∉ k1 := fun z => hi (List.mem_append_left _ z)
    have a2 : i ∉ k2 := fun z => hi (List.mem_append_right _ z)
    rw [wipe_get_eq h2 a2, wipe_get_eq h1 a1]
/-- a target by data -/
def gD (c : Cf) (G G' : List Ow) (ks : List Nat) (t : D → Rho → Res Rho) : TG := fun v σ H Q => ∃ S0 H0 S r d, EnvOk c S0 H0 G S H σ r ∧ Rp c.K c.cm S v d ∧ PostR c S0 H0 S H G' σ ks (t d r) Q
theorem pg_imp {tg : Expr} {t t' : TG} (h : PG X tg t) (k : ∀ v σ H Q, t' v σ H Q → t v σ H Q) : PG X tg t' := ⟨fun pins s σ H v u Q I r q => h.run pins s σ H v u Q I r (k v σ H Q q)⟩
theorem pgs_imp {tg : List Expr} {t t' : TGs} (h : PGs X tg t) (k : ∀ v σ H Q, t' v σ H Q → t v σ H Q) : PGs X tg t' := ⟨fun pins s σ H v u Q I r q => h.run pins s σ H v u Q I r (k v σ H Q q)⟩
def tgN (i : Nat) : D → Rho → Res Rho := fun d r => .ok (r.set i (some d))
theorem dg_name (i : Nat) {x : Str} (hN : X.N.Nodup) (hi : X.N[i]? = some x) (hx : Loc X.env.scope x) (hf : X.fn x = true ∨ X.env.scope.names.lookup x = some .local := by first | exact .inl rfl | exact .inr rfl | assumption) :
    PG X (.Name x pos) (gD c G (G.set i .v) [i] (tgN i)) := pg_imp (pg_name hN hi hx hf) fun v σ H Q ⟨S0, H0, S, r, d, ok, hv, p⟩ => p _ wipe_set (ok.setV i hv)
def gDs (c : Cf) (G G' : List Ow) (ks : List Nat) (t : List D → Rho → Res Rho) : TGs := fun vs σ H Q => ∃ S0 H0 S r ds, EnvOk c S0 H0 G S H σ r ∧ RpA c.K c.cm S vs ds ∧ PostR c S0 H0 S H G' σ ks (t ds r) Q
def tgNil : List D → Rho → Res Rho
  | [], r => .ok r
  | _ :: _, _ => .bad
def tgCons (t : D → Rho → Res Rho) (u : List D → Rho → Res Rho) : List D → Rho → Res Rho
  | [], _ => .bad
  | d :: ds, r => (t d r).bind (u ds)
theorem dg_nil : PGs X [] (gDs c G G [] tgNil) := pgs_imp pgs_nil fun vs σ H Q ⟨S0, H0, S, r, ds, ok, hv, p⟩ => by
  cases hv with
  | nil => exact ⟨rfl, p σ rfl ok⟩
  | cons _ _ => exact p.elim
theorem dg_cons {es : List Expr} {t : D → Rho → Res Rho} {u : List D → Rho → Res Rho} {k1 k2 : List Nat} (h1 : PG X e (gD c G G' k1 t)) (h2 : PGs X es (gDs c G' G'' k2 u)) (hs : (assignEach (e :: es) X.env).map (·.2) = assign e X.env :: (assignEach es X.env).map (·.2) := by rfl) :
    PGs X (e :: es) (gDs c G G'' (k1 ++ k2) (tgCons t u)) := pgs_imp (pgs_cons h1 h2 hs) fun vs σ H Q ⟨S0, H0, S, r, ds, ok, hv, p⟩ => by
  cases hv with
  | nil => exact p.elim
  | @cons v vs d ds hv hr =>
    refine ⟨v, vs, rfl, S0, H0, S, r, d, ok, hv, ?_⟩
    have p : PostR c S0 H0 S H G'' σ (k1 ++ k2) ((t d r).bind (u ds)) Q := p
    cases ht : t d r with
    | ok r1 =>
      rw [ht] at p
      intro σ1 z1 ok1
      refine ⟨S0, H0, S, r1, ds, ok1, hr, ?_⟩
      have p : PostR c S0 H0 S H G'' σ (k1 ++ k2) (u ds r1) Q := p
      cases hu : u ds r1 with
      | ok r2 => rw [hu] at p; exact fun σ2 z2 ok2 => p σ2 (wipe_app z1 z2) ok2
      | err _ _ _ => rw [hu] at p; exact p.elim
      | bad => rw [hu] at p; exact p.elim
    | err _ _ _ => rw [ht] at p; exact p.elim
    | bad => rw [ht] at p; exact p.elim
def tgT (n : Nat) (u : List D → Rho → Res Rho) : D → Rho → Res Rho := fun d r => match d with
  | .tup ds => if ds.length = n then u ds r else .bad
  | .kt ds => if ds.length = n then u ds r else .bad
  | _ => .bad
theorem dg_tup {es : List Expr} {k n : Nat} {ks : List Nat} {u : List D → Rho → Res Rho} (hc : X.calm = true) (h : PGs X es (gDs c G G' ks u)) (hn : (assignEach es X.env).length = n := by rfl) (hst : (assignEach es X.env).findIdx? (·.1) = none := by rfl) (hK : c.K = X.K := by rfl) :
    PG X (.Tuple es k pos) (gD c G G' ks (tgT n u)) := pg_imp (pg_tup hc h hn hst) fun v σ H Q ⟨S0, H0, S, r, d, ok, hv, p⟩ => by
  unfold tgT at p
  cases hv with
  | @kt a xs ds q rr =>
    dsimp only at p
    by_cases hl : ds.length = n
    · rw [if_pos hl] at p
      exact ⟨a, xs, rfl, by rw [← hK]; exact ok.ex.t q, by rw [rr.length]; exact hl, S0, H0, S, r, ds, ok, rr, p⟩
    · rw [if_neg hl] at p; exact p.elim
  | @tup a xs ds q rr =>
    dsimp only at p
    by_cases hl : ds.length = n
    · rw [if_pos hl] at p
      exact ⟨a, xs, rfl, by rw [← hK]; exact .inl (.inl (ok.ex _ _ q)), by rw [rr.length]; exact hl, S0, H0, S, r, ds, ok, rr, p⟩
    · rw [if_neg hl] at p; exact p.elim
  | _ => exact p.elim
def asgF (t : D → Rho → Res Rho) (f : Rho → Res D) : Rho → SR := fun r => liftS r (f r) fun d => match t d r with
  | .ok r' => .nx r'
  | _ => .bad
/-- target = e -/
theorem ds_asg {tg : Expr} {ks : List Nat} {t : D → Rho → Res Rho} (hg : Gok c G) (he : PE X e (tV c G f)) (ht : PG X tg (gD c G G' ks t)) (hs : swapsWithSole [tg] e pos.line X.env = pure false := by rfl) (hw : swappedStores [tg] e X.env = pure none := by rfl)
    (h1 : (assignEach [tg] X.env).map (·.2) = [assign tg X.env] := by rfl) : PS X (.Assign [tg] e pos) (sD c L G G' (asgF t f)) := ps_imp (ps_asg he ht hs hw h1) fun E σ H ⟨S0, H0, S, r, ok, p⟩ => st_seq hg ok p fun d v S1 H1 w1 o1 m1 p1 => by
  refine ⟨S0, H0, S1, r, d, o1, m1, ?_⟩
  cases ht : t d r with
  | ok r' => rw [ht] at p1; exact fun σ' _ ok' => p1 σ' S1 H1 ok'
  | err _ _ _ => rw [ht] at p1; exact p1.elim
  | bad => rw [ht] at p1; exact p1.elim
/-- x, y = a, b -/
def parF (i j : Nat) (f1 f2 : Rho → Res D) : Rho → SR := fun r => liftS r (dCons f1 (dCons f2 dNil) r) fun ds => match ds with
  | [d, e] => .nx ((r.set i (some d)).set j (some e))
  | _ => .bad
theorem ds_par (i j : Nat) {x y : Str} {px py pt pt2 : Pos} {kt k2 : Nat} (hg : Gok c G) (hc : X.calm = true) (hN : X.N.Nodup) (hi : X.N[i]? = some x) (hj : X.N[j]? = some y) (hij : i ≠ j)
    (hx : X.env.scope.names.lookup x = some .local) (hy : X.env.scope.names.lookup y = some .local) (ha : PE X a (tV c G f1)) (hb : PE X b (tV c G f2))
    (hw : swappedStores [.Tuple [.Name x px, .Name y py] kt pt] (.Tuple [a, b] k2 pt2) X.env = pure (some [x, y]))
    (hs : swapsWithSole [.Tuple [.Name x px, .Name y py] kt pt] (.Tuple [a, b] k2 pt2) pos.line X.env = pure false := by rfl)
    (hs1 : starEach [a, b] X.env = (false, eval a X.env) :: starEach [b] X.env := by rfl) (hs2 : starEach [b] X.env = (false, eval b X.env) :: starEach [] X.env := by rfl) :
    PS X (.Assign [.Tuple [.Name x px, .Name y py] kt pt] (.Tuple [a, b] k2 pt2) pos) (sD c L G ((G.set i .v).set j .v) (parF i j f1 f2)) :=
  ps_imp (ps_par hc hN hi hj hij hx hy (da_cons ha (da_cons hb da_nil hs2) hs1) hw hs) fun E σ H ⟨S0, H0, S, r, ok, p⟩ => st_seq hg ok p fun ds vs S1 H1 w1 o1 m1 p1 => by
    match ds, m1, p1 with
    | [d, e], .cons hd (.cons he .nil), p1 => exact ⟨_, _, rfl, p1 _ S1 H1 ((o1.setV i hd).setV j he)⟩
    | [], _, p1 => exact p1.elim
    | [_], _, p1 => exact p1.elim
    | _ :: _ :: _ :: _, _, p1 => exact p1.elim
def YOk (c : Cf) (S' : Hp) (ds : List D) (Y : Nat → Hp → V → Hp → Prop) : Prop := ∀ i S1 H1 x H2, i < ds.length → Ex S' S1 → Ex S1 H1 → Y i H1 x H2 → ∃ S2 d, Fwd S1 H1 S2 H2 ∧ ds[i]? = some d ∧ Rp c.K c.cm S2 x d
/-- the iterator J gives the data ds -/
def Gives (c : Cf) (H0 S' : Hp) (J : It) (ds : List D) : Prop := ∃ Gd Y, Walk J ds.length Gd Y ∧ (∀ S'' H'', Ex S' S'' → Ex S'' H'' → Ex H0 H'' → Gd H'') ∧ YOk c S' ds Y
def iD (c : Cf) (G : List Ow) (f : Rho → Res (List D)) : TI := fun σ H R => ∃ S0 H0 S r, EnvOk c S0 H0 G S H σ r ∧ PostG c σ S H (f r) fun ds S' H' => ∀ J, Gives c H0 S' J ds → R J H'
theorem pi_imp {tg it : Expr} {t t' : TI} (h : PI X tg it t) (k : ∀ σ H R, t' σ H R → t σ H R) : PI X tg it t' := ⟨fun pins s σ H R I q => h.run pins s σ H R I (k σ H R q)⟩
def dIt (g : D → Res (List D)) (f : Rho → Res D) : Rho → Res (List D) := fun r => (f r).bind g
theorem gives_list {c : Cf} {H0 S : Hp} {q : Addr} {xs : List V} {ds : List D} (h : SqL c.K S q xs) (rr : RpA c.K c.cm S xs ds) : Gives c H0 S (Itl c.K q) ds := by
  refine ⟨_, _, by rw [← rr.length]; exact walk_list (K := c.K) (a := q) (xs := xs), fun S'' H'' e1 e2 _ => e2.l (e1.l h), fun i S1 H1 x H2 hi e1 e2 y => ?_⟩
  obtain ⟨rfl, hx⟩ := y
  obtain ⟨d, h1, h2⟩ := rr.getV hx
  exact ⟨S1, d, Fwd.refl e2, h1, h2.mono e1⟩
theorem gives_tup {c : Cf} {H0 S : Hp} {q : Addr} {xs : List V} {ds : List D} (h : SqT c.K S q xs) (rr : RpA c.K c.cm S xs ds) : Gives c H0 S (Itt c.K q) ds := by
  refine ⟨_, _, by rw [← rr.length]; exact walk_tup (K := c.K) (a := q) (xs := xs), fun S'' H'' e1 e2 _ => e2.t (e1.t h), fun i S1 H1 x H2 hi e1 e2 y => ?_⟩
  obtain ⟨rfl, hx⟩ := y
  obtain ⟨d, h1, h2⟩ := rr.getV hx
  exact ⟨S1, d, Fwd.refl e2, h1, h2.mono e1⟩
variable {tg : Expr}
theorem di_list (he : PE X e (tV c G f)) (hK : c.K = X.K := by rfl) : PI X tg e (iD c G (dIt itemsL f)) := pi_imp (pi_list he) fun σ H R ⟨S0, H0, S, r, ok, p⟩ => rd_seq ok p fun d v S1 H1 w1 o1 m1 p1 => by
  rw [← hK]
  cases d with
  | lst ds =>
    cases m1 with | @lst q xs _ h rr =>
    exact ⟨q, rfl, ⟨xs, .inl (.inl (o1.ex _ _ h))⟩, p1.go o1.ex _ (gives_list (.inl (.inl h)) rr)⟩
  | fz ds =>
    cases m1 with | @fz q xs _ h rr =>
    exact ⟨q, rfl, ⟨xs, o1.ex.l h⟩, p1.go o1.ex _ (gives_list h rr)⟩
  | _ => exact p1.elim
theorem di_tup (he : PE X e (tV c G f)) (hK : c.K = X.K := by rfl) : PI X tg e (iD c G (dIt itemsT f)) := pi_imp (pi_tup he) fun σ H R ⟨S0, H0, S, r, ok, p⟩ => rd_seq ok p fun d v S1 H1 w1 o1 m1 p1 => by
  rw [← hK]
  cases d with
  | tup ds =>
    cases m1 with | @tup q xs _ h rr =>
    exact ⟨q, rfl, ⟨xs, .inl (.inl (o1.ex _ _ h))⟩, p1.go o1.ex _ (gives_tup (.inl (.inl h)) rr)⟩
  | _ => exact p1.elim
/-- range(n), range(a, b) -/
def rngL (lo : Int) (n : Nat) : List D := (List.range n).map fun (i : Nat) => D.int (lo + (i : Int))
theorem gives_rng {c : Cf} {H0 S : Hp} {lo : Int} {n : Nat} : Gives c H0 S (Itr lo n) (rngL lo n) := by
  have hl : (rngL lo n).length = n := by unfold rngL; simp
  refine ⟨_, _, by rw [hl]; exact walk_range, fun _ _ _ _ _ => trivial, fun i S1 H1 x H2 hi e1 e2 y => ?_⟩
  obtain ⟨rfl, rfl⟩ := y
  rw [hl] at hi
  exact ⟨S1, .int (lo + (i : Int)), Fwd.refl e2, by unfold rngL; simp [hi], .int _⟩
noncomputable def rng1 : List D → Res (List D)
  | [.int n] => guard (-4611686018427387904 ≤ n ∧ n < 4611686018427387904) (.ok (rngL 0 n.toNat))
  | _ => .bad
def dIts (g : List D → Res (List D)) (fs : Rho → Res (List D)) : Rho → Res (List D) := fun r => (fs r).bind g
theorem di_rng1 {p : Pos} {fs : Rho → Res (List D)} (hm : X.mg "range" = none) (hg : Gl X "range") (ha : PA X [a] (tAs c G fs)) (hs : starEach [a] X.env = [(false, eval a X.env)] := by rfl) : PI X tg (.Call (.Name "range" p) [a] [] pos) (iD c G (dIts rng1 fs)) :=
  pi_imp (pi_range1 hg hm ha hs) fun σ H R ⟨S0, H0, S, r, ok, p⟩ => rd_seq ok p fun ds vs S1 H1 w1 o1 m1 p1 => by
    unfold rng1 at p1
    split at p1
    · obtain ⟨hl, p1⟩ := p1.gd
      match vs, m1 with
      | _, .cons h .nil => cases h; exact ⟨_, rfl, by have := hl.1; omega, by have := hl.2; omega, p1.go o1.ex _ gives_rng⟩
    · exact p1.elim
/-- the signs of a text -/
def signs (z : Str) : List D := z.cps.toList.map fun n => .str ⟨#[n]⟩
def itemsS : D → Res (List D)
  | .str z => .ok (signs z)
  | _ => .bad
theorem di_str (he : PE X e (tV c G f)) : PI X tg e (iD c G (dIt itemsS f)) := pi_imp (pi_str he) fun σ H R ⟨S0, H0, S, r, ok, p⟩ => rd_seq ok p fun d v S1 H1 w1 o1 m1 p1 => by
  cases d with
  | str z =>
    cases m1
    have hl : (signs z).length = z.cps.size := by unfold signs; simp
    refine ⟨z, rfl, p1.go o1.ex _ ⟨_, _, by rw [hl]; exact walk_str (z := z), fun _ _ _ _ _ => trivial, fun i S2 H2 x H3 hi e1 e2 y => ?_⟩⟩
    obtain ⟨rfl, n, hn, rfl⟩ := y
    refine ⟨S2, .str ⟨#[n]⟩, Fwd.refl e2, ?_, .str _⟩
    unfold signs
    rw [List.getElem?_map, Array.getElem?_toList, hn]; rfl
  | _ => exact p1.elim
def loopF (t : D → Rho → Res Rho) (F : Rho → SR) : List D → Rho → SR
  | [], r => .nx r
  | d :: ds, r => match t d r with
    | .ok r1 => match F r1 with
      | .nx r2 => loopF t F ds r2
      | .ct r2 => loopF t F ds r2
      | .bk r2 => .nx r2
      | o => o
    | _ => .bad
def forF (its : Rho → Res (List D)) (t : D → Rho → Res Rho) (F : Rho → SR) : Rho → SR := fun r => liftS r (its r) fun ds => loopF t F ds r
theorem ds_for {iter : Expr} {body : List Stmt} {its : Rho → Res (List D)} {ks : List Nat} {t : D → Rho → Res Rho} {F : Rho → SR} (hg : Gok c G) (hp : PassesOwn (model X.prog X.w) X.A X.env X.xe) (hc : X.calm = true) (hi : PI X tg iter (iD c G its)) (ht : PG X tg (gD c G G' ks t)) (hb : PSs X body (sD c G G' G F))
    (hs : ∀ x, foldedSetIterable iter X.env x = pure x := by intro _; rfl) : PS X (.For tg iter body [] pos) (sD c L G G (forF its t F)) :=
  ps_imp (ps_for hp hc hi ht hb hs) fun E σ H ⟨S0, H0, S, r, ok, p⟩ => by
    refine ⟨S0, H0, S, r, ok, ?_⟩
    unfold forF at p
    cases hf : its r with
    | err n ns vs =>
      rw [hf] at p
      exact fun C dd S' H' fs h1 fw h2 h3 h4 => p C dd σ S' H' fs h1 (ok.fwd.trans fw) (fun g q => by rw [hg g q]; exact ok.go fw) h2 h3 h4
    | bad => rw [hf] at p; exact p.elim
    | ok ds =>
      rw [hf] at p
      intro S1 H1 w1 J ⟨Gd, Y, wk, hG, hY⟩
      have p : PostS c S0 H0 L G (loopF t F ds r) E := p
      refine for_it wk (fun i σ' H' => ∃ S' r', Ex S1 S' ∧ EnvOk c S0 H0 G S' H' σ' r' ∧ PostS c S0 H0 L G (loopF t F (ds.drop i) r') E) ⟨S1, r, Ex.refl, ok.go w1, by rw [List.drop_zero]; exact p⟩ ?_ ?_ ?_
      · rintro i σ' H' _ ⟨S', r', e1, ok', _⟩
        exact hG S' H' e1 ok'.ex ok'.fwd.h
      · rintro i x σ' H' H2 hi ⟨S', r', e1, ok', p'⟩ y
        obtain ⟨S2, d, fw, hd, hx⟩ := hY i S' H' x H2 hi e1 ok'.ex y
        have hdrop : ds.drop i = d :: ds.drop (i + 1) := by
          rw [List.drop_eq_getElem_cons hi]
          rw [List.getElem?_eq_getElem hi] at hd
          cases hd; rfl
        rw [hdrop] at p'
        unfold loopF at p'
        refine ⟨S0, H0, S2, r', d, ok'.go fw, hx, ?_⟩
        cases htt : t d r' with
        | err _ _ _ => rw [htt] at p'; exact p'.elim
        | bad => rw [htt] at p'; exact p'.elim
        | ok r1 =>
          rw [htt] at p'
          intro σ3 _ ok3
          refine ⟨S2, H0, S2, r1, ok3.rebase, ?_⟩
          dsimp only at p'
          have fin : ∀ σ4 S4 H4 r4, EnvOk c S2 H0 G S4 H4 σ4 r4 → PostS c S0 H0 L G (loopF t F (ds.drop (i + 1)) r4) E → ∃ S' r', Ex S1 S' ∧ EnvOk c S0 H0 G S' H4 σ4 r' ∧ PostS c S0 H0 L G (loopF t F (ds.drop (i + 1)) r') E := fun σ4 S4 H4 r4 e4 p4 =>
            ⟨S4, r4, (e1.trans fw.s).trans e4.fwd.s, e4.unbase ok3.fwd, p4⟩
          cases hF : F r1 with
          | nx r2 => rw [hF] at p'; exact fun σ4 S4 H4 e4 => fin σ4 S4 H4 r2 e4 p'
          | ct r2 => rw [hF] at p'; exact fun σ4 S4 H4 e4 => fin σ4 S4 H4 r2 e4 p'
          | bk r2 => rw [hF] at p'; exact fun σ4 S4 H4 e4 => p' σ4 S4 H4 (e4.unbase ok3.fwd)
          | rt d => rw [hF] at p'; exact PostS.rebase (c := c) (o := .rt d) (E := E) ok3.fwd p'
          | er r2 n ns vs => rw [hF] at p'; exact PostS.rebase (c := c) (o := .er r2 n ns vs) (E := E) ok3.fwd p'
          | bad => rw [hF] at p'; exact p'.elim
      · rintro σ' H' ⟨S', r', e1, ok', p'⟩
        rw [List.drop_length] at p'
        exact p' σ' S' H' ok'
end
end Dx
end S_DxE
section S_DxF
set_option Elab.async false
set_option linter.all false
set_option maxRecDepth 100000
set_option maxHeartbeats 2000000
namespace Dx
open PySem L2
def wipeR (r : Rho) : List Nat → Rho
  | [] => r
  | v :: vs => (wipeR r vs).set v none
theorem wipeR_len (r : Rho) : ∀ vs : List Nat, (wipeR r vs).length = r.length
  | [] => rfl
  | v :: vs => by show ((wipeR r vs).set v none).length = _; rw [List.length_set, wipeR_len r vs]
theorem wipeR_some {r : Rho} {i : Nat} {d : D} : ∀ {vs : List Nat}, (wipeR r vs)[i]? = some (some d) → r[i]? = some (some d) ∧ i ∉ vs
  | [], h => ⟨h, by simp⟩
  | v :: vs, h => by
    rcases set_some (l := wipeR r vs) h with ⟨_, e, _⟩ | ⟨ne, h⟩
    · cases e
    · obtain ⟨h1, h2⟩ := wipeR_some h
      exact ⟨h1, by simp [Ne.symm ne, h2]⟩
/-- within a comprehension nothing is raised -/
abbrev Cf.calm (c : Cf) : Cf := ⟨c.K, c.cm, fun _ _ _ _ => False, none, c.rm⟩
section
variable {X : Cx} {c : Cf} {L G G' : List Ow} {σ : St} {S0 H0 S H : Hp} {r : Rho}
theorem EnvOk.wiped (e : EnvOk c S0 H0 G S H σ r) (vs : List Nat) : EnvOk c.calm S0 H0 G S H (wipe σ vs) (wipeR r vs) := by
  refine ⟨e.fwd, by rw [wipe_length, wipeR_len, e.len], fun i d h => ?_, fun i j d d' p hi hj ki kj si sj => ?_, let ⟨A, hA⟩ := e.sto; ⟨A, hA.sub (fun a ha => (hA.out a ha).1) (fun _ _ => rfl) Ex.refl (fun i d p hi ki si => hA.own i d p (wipeR_some hi).1 ki (wipe_some si).1) fun i d ki hi => ⟨rfl, (wipeR_some hi).1, by rw [wipe_get, if_neg (wipeR_some hi).2]⟩⟩⟩
  · obtain ⟨h1, h2⟩ := wipeR_some h
    obtain ⟨v, h3, h4⟩ := e.slot i d h1
    exact ⟨v, by rw [wipe_get, if_neg h2]; exact h3, h4⟩
  · exact e.sep i j d d' p (wipeR_some hi).1 (wipeR_some hj).1 ki kj (wipe_some si).1 (wipe_some sj).1
theorem Fwd.put {S' H' : Hp} {p : Addr} {o : HO} (f : Fwd S H S' H') (n : H p = none) (ns : S' p = none) : Fwd S H S' (upd H' p o) := ⟨f.s, f.h.put n, f.sub.put ns, f.new⟩
def lcLoop (t : D → Rho → Res Rho) (tt : Rho → Res Bool) (fe : Rho → Res D) (rw : Rho) : List D → Res (List D)
  | [] => .ok []
  | d :: ds => match t d rw with
    | .ok r1 => match tt r1 with
      | .ok true => match fe r1 with
        | .ok x => match lcLoop t tt fe rw ds with
          | .ok xs => .ok (x :: xs)
          | _ => .bad
        | _ => .bad
      | .ok false => lcLoop t tt fe rw ds
      | _ => .bad
    | _ => .bad
noncomputable def dLc (its : Rho → Res (List D)) (t : D → Rho → Res Rho) (tt : Rho → Res Bool) (fe : Rho → Res D) (vs : List Nat) : Rho → Res D := fun r => (its r).bind fun ds => guard (ds.length ≤ sizeLine) (match lcLoop t tt fe (wipeR r vs) ds with
  | .ok xs => .ok (.lst xs)
  | _ => .bad)
def dYes : Rho → Res Bool := fun _ => .ok true
/-- what is walked, as long as nothing that is there changes -/
def iDl (c : Cf) (G : List Ow) (f : Rho → Res (List D)) : TI := fun σ H R => ∃ S0 H0 S r, EnvOk c S0 H0 G S H σ r ∧ PostG c σ S H (f r) fun ds S' H' => ∀ J, Gives c H' S' J ds → R J H'
theorem pi_l {tg it : Expr} {f : Rho → Res (List D)} (h : PI X tg it (iD c G f)) : PI X tg it (iDl c G f) := pi_imp h fun σ H R ⟨S0, H0, S, r, ok, p⟩ => ⟨S0, H0, S, r, ok, p.imp fun ds S' H' fw hk J gv => hk J (let ⟨Gd, Y, h1, h2, h3⟩ := gv; ⟨Gd, Y, h1, fun S'' H'' e1 e2 e3 => h2 S'' H'' e1 e2 ((ok.fwd.h.trans fw.h).trans e3), h3⟩)⟩
theorem lc_rd {its : Rho → Res (List D)} {t : D → Rho → Res Rho} {tt : Rho → Res Bool} {fe : Rho → Res D} {vs : List Nat} : ∀ σ H Q, tO c G (dLc its t tt fe vs) σ H Q →
    tLc (iDl c G its) (gD c.calm G G' vs t) (tT c.calm G' tt) (tV c.calm G' fe) vs σ H Q := fun σ H Q ⟨S0, H0, S, r, ok, p⟩ => by
  refine ⟨S0, H0, S, r, ok, p.unbind.imp fun ds S1 H1 w1 p1 J gv Dl hD => ?_⟩
  obtain ⟨hl, p1⟩ := p1.gd
  obtain ⟨Gd, Y, wk, hG, hY⟩ := gv
  have ok1 := ok.go w1
  split at p1
  · rename_i res hres
    have okw := ok1.wiped vs
    have nS : S1 Dl = none := ok1.ex.nn hD
    refine lc_it wk (fun i H' => ∃ S' acc accD rest, Fwd S1 H1 S' H' ∧ S' Dl = none ∧ H' Dl = some (.lst acc) ∧ RpA c.K c.cm S' acc accD ∧ lcLoop t tt fe (wipeR r vs) (ds.drop i) = .ok rest ∧ accD ++ rest = res ∧ accD.length ≤ i)
      ⟨S1, [], [], res, Fwd.heap ok1.ex hD, nS, upd_same, .nil, by rw [List.drop_zero]; exact hres, rfl, Nat.le_refl _⟩ ?_ ?_ ?_
    · rintro i H' _ ⟨S', acc, accD, rest, fw, _⟩
      exact hG S' H' fw.s fw.sub fw.h
    · rintro i x H' H2 hi ⟨S', acc, accD, rest, fw, n1, h1, r1, hr, ha, hn⟩ y
      obtain ⟨S2, d, fw2, hd, hx⟩ := hY i S' H' x H2 hi fw.s fw.sub y
      have hdrop : ds.drop i = d :: ds.drop (i + 1) := by
        rw [List.drop_eq_getElem_cons hi]
        rw [List.getElem?_eq_getElem hi] at hd
        cases hd; rfl
      rw [hdrop] at hr
      unfold lcLoop at hr
      refine ⟨S0, H0, S2, wipeR r vs, d, okw.go (fw.trans fw2), hx, ?_⟩
      cases ht : t d (wipeR r vs) with
      | err _ _ _ => rw [ht] at hr; cases hr
      | bad => rw [ht] at hr; cases hr
      | ok r2 =>
        rw [ht] at hr
        dsimp only at hr
        intro σ3 z3 ok3
        have hz : L2.wipe (L2.wipe σ vs) vs = L2.wipe σ vs := by
          apply List.ext_getElem?
          intro k
          rw [wipe_get, wipe_get]
          split
          · cases σ[k]? <;> rfl
          · rfl
        have keepN : ∀ S4 H4, Fwd S' H' S4 H4 → S4 Dl = none := fun S4 H4 f4 => by
          cases q : S4 Dl with
          | none => rfl
          | some u => obtain ⟨_, z⟩ := (f4.new Dl u q n1).not h1; cases z
        refine ⟨z3.trans hz, S0, H0, S2, r2, ok3, ?_⟩
        cases htt : tt r2 with
        | err _ _ _ => rw [htt] at hr; cases hr
        | bad => rw [htt] at hr; cases hr
        | ok b =>
          rw [htt] at hr
          intro S4 H4 w4 b' hb
          cases hb
          have f4 := fw2.trans w4
          cases b with
          | false =>
            dsimp only at hr
            rw [if_neg (by decide)]
            exact ⟨S4, acc, accD, rest, fw.trans f4, keepN S4 H4 f4, f4.h _ _ h1, r1.mono f4.s, hr, ha, Nat.le_succ_of_le hn⟩
          | true =>
            dsimp only at hr
            rw [if_pos rfl]
            refine ⟨S0, H0, S4, r2, ok3.go w4, ?_⟩
            cases hfe : fe r2 with
            | err _ _ _ => rw [hfe] at hr; cases hr
            | bad => rw [hfe] at hr; cases hr
            | ok x2 =>
              rw [hfe] at hr
              dsimp only at hr
              cases hlc : lcLoop t tt fe (wipeR r vs) (ds.drop (i + 1)) with
              | err _ _ _ => rw [hlc] at hr; cases hr
              | bad => rw [hlc] at hr; cases hr
              | ok xs2 =>
                rw [hlc] at hr
                cases hr
                intro S5 H5 w5 y5 hy5
                have f5 := f4.trans w5
                refine ⟨acc, f5.h _ _ h1, ?_, S5, acc ++ [y5], accD ++ [x2], xs2, (fw.trans f5).put hD (keepN S5 H5 f5), keepN S5 H5 f5, upd_same, (r1.mono f5.s).app (.one hy5), rfl, ?_, ?_⟩
                · rw [r1.length]; omega
                · rw [← ha, List.append_assoc]; rfl
                · simp; omega
    · rintro H' ⟨S', acc, accD, rest, fw, n1, h1, r1, hr, ha, hn⟩
      rw [List.drop_length] at hr
      cases hr
      rw [List.append_nil] at ha
      subst ha
      exact p1 S' H' fw _ ⟨Dl, .lst acc, rfl, w1.h.nn hD, n1, h1, .lst r1⟩
  · exact p1.elim
theorem de_lc {elt tg iter : Expr} {ifs : List Expr} {scope : Scope} {own : List (Str × Nat)} {pos : Pos} {its : Rho → Res (List D)} {t : D → Rho → Res Rho} {tt : Rho → Res Bool} {fe : Rho → Res D} (hc : X.calm = true) (hN : X.N.Nodup) (hi : PI X tg iter (iD c G its)) (ok : BlkOk X.N X.env.scope scope own)
    (hg : ∀ (s : Shared) (H : Hp) (C : Addr) (cl : List (Str × Addr)) (fp : List Addr), PG (X.blk s H scope (compEnvC scope cl C X.env) fp) tg (gD c.calm G G' (own.map (·.2)) t)) (ht : ∀ (s : Shared) (H : Hp) (C : Addr) (cl : List (Str × Addr)) (fp : List Addr), PTs (X.blk s H scope (compEnvC scope cl C X.env) fp) ifs (tT c.calm G' tt))
    (he : ∀ (s : Shared) (H : Hp) (C : Addr) (cl : List (Str × Addr)) (fp : List Addr), PE (X.blk s H scope (compEnvC scope cl C X.env) fp) elt (tV c.calm G' fe)) (hs : ∀ x, foldedSetIterable iter X.env x = pure x := by intro _; rfl) :
    PE X (.ListComp elt [⟨tg, iter, ifs, 0⟩] scope pos) (tO c G (dLc its t tt fe (own.map (·.2)))) := pe_imp (pe_lc hc hN (pi_l hi) ok hg ht he hs) lc_rd
/-- name = [..] on one line, the name a local -/
theorem ds_setLc (i : Nat) {y : Str} {py : Pos} {elt tg iter : Expr} {ifs : List Expr} {scope : Scope} {own : List (Str × Nat)} {pos spos : Pos} {its : Rho → Res (List D)} {t : D → Rho → Res Rho} {tt : Rho → Res Bool} {fe : Rho → Res D} (hgk : Gok c G) (hG : i < G.length) (hc : X.calm = true) (hN : X.N.Nodup) (hy : X.N[i]? = some y) (hyl : X.env.scope.names.lookup y = some .local)
    (hsw : swapsWith (.ListComp elt [⟨tg, iter, ifs, 0⟩] scope pos) (some (.Name y py)) spos.line X.env = pure true) (hi : PI X tg iter (iD c G its)) (ok : BlkOk X.N X.env.scope scope own)
    (hg : ∀ (s : Shared) (H : Hp) (C : Addr) (cl : List (Str × Addr)) (fp : List Addr), PG (X.blk s H scope (compEnvC scope cl C X.env) fp) tg (gD c.calm G G' (own.map (·.2)) t)) (ht : ∀ (s : Shared) (H : Hp) (C : Addr) (cl : List (Str × Addr)) (fp : List Addr), PTs (X.blk s H scope (compEnvC scope cl C X.env) fp) ifs (tT c.calm G' tt))
    (he : ∀ (s : Shared) (H : Hp) (C : Addr) (cl : List (Str × Addr)) (fp : List Addr), PE (X.blk s H scope (compEnvC scope cl C X.env) fp) elt (tV c.calm G' fe)) (hs : ∀ x, foldedSetIterable iter X.env x = pure x := by intro _; rfl) :
    PS X (.Assign [.Name y py] (.ListComp elt [⟨tg, iter, ifs, 0⟩] scope pos) spos) (sD c L G (G.set i .o) (setF i (dLc its t tt fe (own.map (·.2))))) :=
  ps_imp (ps_setLc hc hN hy hyl hsw (pi_l hi) ok hg ht he hs) fun E σ H ⟨S0, H0, S, r, ok, p⟩ => lc_rd σ H _ (st_seq hgk ok p fun d v S1 H1 w1 o1 m1 p1 => by
    obtain ⟨q, ho, rfl, n, ns, hp, h⟩ := m1
    exact p1 _ S1 H1 (ok.setO w1 i hG n ns hp h))
theorem dt_nil : PTs X [] (tT c G dYes) := ⟨fun pins s σ H Q I ⟨S0, H0, S, r, ok, p⟩ => pts_nil.run pins s σ H Q I (p.go ok.ex _ rfl)⟩
def whileN (t : Rho → Res Bool) (F : Rho → SR) : Nat → Rho → SR
  | 0, _ => .bad
  | n + 1, r => liftS r (t r) fun b => if b = true then (match F r with
    | .nx r' => whileN t F n r'
    | .ct r' => whileN t F n r'
    | .bk r' => .nx r'
    | o => o) else .nx r
theorem ds_while {cnd : Expr} {body : List Stmt} {pos : Pos} {t : Rho → Res Bool} {F : Rho → SR} (n : Nat) (hg : Gok c G) (hp : PassesOwn (model X.prog X.w) X.A X.env X.xe) (hc : PT X cnd (tT c G t)) (hb : PSs X body (sD c G G G F)) :
    PS X (.While cnd body [] pos) (sD c L G G (whileN t F n)) := ps_imp (ps_while hp hc hb) fun E σ H ⟨S0, H0, S, r, ok, p⟩ => by
  refine ⟨fun m σ' H' => ∃ S' r', EnvOk c S0 H0 G S' H' σ' r' ∧ PostS c S0 H0 L G (whileN t F m r') E, ⟨n, S, r, ok, p⟩, ?_⟩
  rintro m σ1 H1 ⟨S1, r1, ok1, p1⟩
  cases m with
  | zero => exact p1.elim
  | succ m =>
    refine st_seq hg ok1 p1 fun b v S2 H2 w2 o2 m2 p2 => ?_
    rw [show v = b from m2]
    cases b with
    | false => exact p2 σ1 S2 H2 o2
    | true =>
      have p2 : PostS c S0 H0 L G (match F r1 with
        | .nx r' => whileN t F m r'
        | .ct r' => whileN t F m r'
        | .bk r' => .nx r'
        | o => o) E := p2
      rw [if_pos rfl]
      refine ⟨fun σ3 H3 => ∃ S3 r3, EnvOk c S0 H0 G S3 H3 σ3 r3 ∧ PostS c S0 H0 L G (whileN t F m r3) E, fun σ3 H3 h => ⟨m, Nat.lt_succ_self m, h⟩, S0, H0, S2, r1, o2, ?_⟩
      cases hF : F r1 with
      | nx r2 => rw [hF] at p2; exact fun σ4 S4 H4 e4 => ⟨S4, r2, e4, p2⟩
      | ct r2 => rw [hF] at p2; exact fun σ4 S4 H4 e4 => ⟨S4, r2, e4, p2⟩
      | bk r2 => rw [hF] at p2; exact fun σ4 S4 H4 e4 => p2 σ4 S4 H4 e4
      | rt d => rw [hF] at p2; exact p2
      | er r2 n ns vs => rw [hF] at p2; exact p2
      | bad => rw [hF] at p2; exact p2.elim
end
/-- the mode of its result: own, or a value -/
def mR (c : Cf) (rm : Bool) : Md V D := if rm then mO c else mV c
instance {c : Cf} {rm : Bool} : Anti (mR c rm) := by
  cases rm with
  | true => exact (inferInstance : Anti (mO c))
  | false => exact (inferInstance : Anti (mV c))
/-- F by data; ms the arguments' modes; rm whether the result is a new object that nothing else holds -/
def spD (K : PySem.W.Frag) (cm : CM) (ms : List Bool) (rm : Bool) (F : List D → Res D) : Sp := fun vs H Q E => ∃ S ds, Ex S H ∧ RpM ⟨K, cm, fun _ _ _ _ => False, none, rm⟩ S H ms vs ds ∧
  PostG ⟨K, cm, fun cls d _ H => E cls d H, none, rm⟩ [] S H (F ds) fun a S' H' => ∀ b, mR ⟨K, cm, fun _ _ _ _ => False, none, rm⟩ rm H S' H' b a → Q b H'
section
variable {X : Cx} {c : Cf} {L G G' : List Ow} {k : Nat} {f : Addr} {fd : FuncData} {ps : List Str} {x : Str} {p pos : Pos} {e : Expr} {es : List Expr} {fs : Rho → Res (List D)} {ms : List Bool} {rm : Bool} {F : List D → Res D}
theorem RpM.cf {c c' : Cf} {S H : Hp} (hK : c.K = c'.K) (hm : c.cm = c'.cm) : ∀ {ms : List Bool} {vs : List V} {ds : List D}, RpM c S H ms vs ds → RpM c' S H ms vs ds
  | [], [], [], _ => trivial
  | true :: ms, v :: vs, d :: ds, h => ⟨by rw [← hK, ← hm]; exact h.1, RpM.cf hK hm h.2⟩
  | false :: ms, v :: vs, d :: ds, h => ⟨by rw [← hK, ← hm]; exact h.1, RpM.cf hK hm h.2⟩
  | [], _ :: _, _, h => h.elim
  | [], [], _ :: _, h => h.elim
  | true :: _, [], _, h => h.elim
  | true :: _, _ :: _, [], h => h.elim
  | false :: _, [], _, h => h.elim
  | false :: _, _ :: _, [], h => h.elim
theorem call_rd {E : XK} {σ : St} {S H : Hp} {vs : List V} {ds : List D} {Q : VK} (hE : ∀ cls d H, c.W cls d σ H → E cls d H) (ex : Ex S H) (m : RpM c S H ms vs ds)
    (q : PostG c σ S H (F ds) fun a S' H' => ∀ b, mR c rm H S' H' b a → Q b H') : spD c.K c.cm ms rm F vs H Q E := by
  refine ⟨S, ds, ex, RpM.cf (c := c) (c' := ⟨c.K, c.cm, fun _ _ _ _ => False, none, rm⟩) rfl rfl m, ?_⟩
  cases hF : F ds with
  | ok a =>
    rw [hF] at q
    intro S' H' w b hb
    refine q S' H' w b ?_
    cases rm with
    | true => exact hb
    | false => exact hb
  | err n ns vs => rw [hF] at q; exact fun C dd S' H' fs h1 w h2 h3 h4 => hE _ _ _ (q C dd S' H' fs h1 w h2 h3 h4)
  | bad => rw [hF] at q; exact q.elim
/-- f(e, ..), f a def of the text -/
theorem de_call (F1 : FnOk X.prog X.w X.K X.mg X.base (L2.CX X.prog X.w) k f fd ps (spD c.K c.cm ms rm F)) (tk : Takes X c.W) (hr : Room k X.A) (hg : Gl X x) (hm : X.mg x = some (.ref f)) (hk : PySem.W.keepIn X.K (.ref f) = true) (hb : Binds X.K fd ps [])
    (ha : PA X (e :: es) (tM c G ms fs)) (hdb : (x == ("__debug__" : Str)) = false := by decide) (he : starEach (e :: es) X.env = (false, eval e X.env) :: starEach es X.env := by rfl) (hpl : (backTo pos (starEach es X.env)).any (·.1) = false := by rfl) :
    PE X (.Call (.Name x p) (e :: es) [] pos) (rd c G (dCall F fs) (mR c rm)) :=
  pe_imp (pe_callSD (E := fun σ cls d H => c.W cls d σ H) F1 hr hg hm hk hb .nil (fun σ => passAt tk σ) ha hdb he hpl) fun σ H Q ⟨S0, H0, S, r, ok, q⟩ => rd_seq ok q fun ds vs S1 H1 w1 o1 m1 p1 => by
    rw [List.append_nil]
    exact call_rd (fun _ _ _ h => h) o1.ex m1 (p1.anti w1.h)
theorem de_callV (F1 : FnOk X.prog X.w X.K X.mg X.base (L2.CX X.prog X.w) k f fd ps (spD c.K c.cm ms false F)) (tk : Takes X c.W) (hr : Room k X.A) (hg : Gl X x) (hm : X.mg x = some (.ref f)) (hk : PySem.W.keepIn X.K (.ref f) = true) (hb : Binds X.K fd ps [])
    (ha : PA X (e :: es) (tM c G ms fs)) (hdb : (x == ("__debug__" : Str)) = false := by decide) (he : starEach (e :: es) X.env = (false, eval e X.env) :: starEach es X.env := by rfl) (hpl : (backTo pos (starEach es X.env)).any (·.1) = false := by rfl) :
    PE X (.Call (.Name x p) (e :: es) [] pos) (tV c G (dCall F fs)) := de_call F1 tk hr hg hm hk hb ha hdb he hpl
def startR (n : Nat) (ds : List D) : Rho := ds.map some ++ List.replicate (n - ds.length) none
def G0 (ms : List Bool) (n : Nat) : List Ow := ms.map (fun m => if m then .b else .v) ++ List.replicate (n - ms.length) .v
def runF (n : Nat) (rm : Bool) (Fb : Rho → SR) (ds : List D) : Res D := match Fb (startR n ds) with
  | .rt d => .ok d
  | .nx _ => if rm then .bad else .ok .non
  | .er _ n ns vs => .err n ns vs
  | _ => .bad
theorem RpM.get {S H : Hp} : ∀ {ms : List Bool} {vs : List V} {ds : List D} {i : Nat} {d : D}, RpM c S H ms vs ds → ds[i]? = some d → ∃ v m, vs[i]? = some v ∧ ms[i]? = some m ∧ SlotOk c H S H (if m then .b else .v) v d
  | [], [], [], _, _, _, h => by simp at h
  | true :: ms, v :: vs, d :: ds, 0, e, h, q => by simp at q; subst q; exact ⟨v, true, by simp, by simp, h.1⟩
  | false :: ms, v :: vs, d :: ds, 0, e, h, q => by simp at q; subst q; exact ⟨v, false, by simp, by simp, h.1⟩
  | true :: ms, v :: vs, d :: ds, i + 1, e, h, q => by
    obtain ⟨v, m, h1, h2, h3⟩ := RpM.get (i := i) h.2 (by simpa using q)
    exact ⟨v, m, by simpa using h1, by simpa using h2, h3⟩
  | false :: ms, v :: vs, d :: ds, i + 1, e, h, q => by
    obtain ⟨v, m, h1, h2, h3⟩ := RpM.get (i := i) h.2 (by simpa using q)
    exact ⟨v, m, by simpa using h1, by simpa using h2, h3⟩
  | [], _ :: _, _, _, _, h, _ => h.elim
  | [], [], _ :: _, _, _, h, _ => h.elim
  | true :: _, [], _, _, _, h, _ => h.elim
  | true :: _, _ :: _, [], _, _, h, _ => h.elim
  | false :: _, [], _, _, _, h, _ => h.elim
  | false :: _, _ :: _, [], _, _, h, _ => h.elim
theorem RpM.len {S H : Hp} : ∀ {ms : List Bool} {vs : List V} {ds : List D}, RpM c S H ms vs ds → vs.length = ms.length ∧ ds.length = ms.length
  | [], [], [], _ => ⟨rfl, rfl⟩
  | true :: ms, v :: vs, d :: ds, h => by have := RpM.len h.2; simp [this.1, this.2]
  | false :: ms, v :: vs, d :: ds, h => by have := RpM.len h.2; simp [this.1, this.2]
  | [], _ :: _, _, h => h.elim
  | [], [], _ :: _, h => h.elim
  | true :: _, [], _, h => h.elim
  | true :: _, _ :: _, [], h => h.elim
  | false :: _, [], _, h => h.elim
  | false :: _, _ :: _, [], h => h.elim
theorem kd_G0 {ms : List Bool} {n i : Nat} : ¬ isO (kd (G0 ms n) i) := by
  unfold kd G0
  rw [List.getD_eq_getElem?_getD, List.getElem?_append]
  split
  · rw [List.getElem?_map]
    cases ms[i]? with
    | none => intro h; cases h
    | some m => cases m <;> (intro h; cases h)
  · rw [List.getElem?_replicate]
    split <;> (intro h; cases h)
theorem kd_G0_sw {ms : List Bool} {n i : Nat} : (∀ P, kd (G0 ms n) i ≠ .s P) ∧ kd (G0 ms n) i ≠ .w := by
  unfold kd G0
  rw [List.getD_eq_getElem?_getD, List.getElem?_append]
  split
  · rw [List.getElem?_map]
    cases ms[i]? with
    | none => exact ⟨fun _ h => (by cases h), fun h => (by cases h)⟩
    | some m => cases m <;> exact ⟨fun _ h => (by cases h), fun h => (by cases h)⟩
  · rw [List.getElem?_replicate]
    split <;> exact ⟨fun _ h => (by cases h), fun h => (by cases h)⟩
theorem kd_G0_at {ms : List Bool} {n i : Nat} {m : Bool} (h : ms[i]? = some m) : kd (G0 ms n) i = if m then .b else .v := by
  unfold kd G0
  have hl : i < ms.length := (List.getElem?_eq_some_iff.mp h).1
  rw [List.getD_eq_getElem?_getD, List.getElem?_append, if_pos (by simpa using hl), List.getElem?_map, h]
  rfl
theorem startR_some {n i : Nat} {ds : List D} {d : D} (h : (startR n ds)[i]? = some (some d)) : ds[i]? = some d := by
  unfold startR at h
  rw [List.getElem?_append] at h
  split at h
  · rw [List.getElem?_map] at h
    cases q : ds[i]? with
    | none => rw [q] at h; cases h
    | some e => rw [q] at h; cases h; rfl
  · rw [List.getElem?_replicate] at h
    split at h <;> cases h
theorem env_start {N : List Str} {S H : Hp} {vs : List V} {ds : List D} (ex : Ex S H) (m : RpM c S H ms vs ds) (hn : ms.length ≤ N.length) : EnvOk c S H (G0 ms N.length) S H (L2.start N vs) (startR N.length ds) := by
  have hl := m.len
  refine ⟨Fwd.refl ex, by unfold L2.start startR; simp [hl.1, hl.2], fun i d h => ?_, fun i j d e p _ _ k _ _ _ => absurd k kd_G0, ⟨[], .nil fun _ _ _ => kd_G0_sw⟩⟩
  have hd := startR_some h
  obtain ⟨v, mm, h1, h2, h3⟩ := m.get hd
  refine ⟨v, ?_, by rw [kd_G0_at h2]; exact h3⟩
  unfold L2.start
  have hlt : i < vs.length := (List.getElem?_eq_some_iff.mp h1).1
  rw [List.getElem?_append, if_pos (by simpa using hlt), List.getElem?_map, h1]
  rfl
end
section
variable {P : Program} {w : World} {K : PySem.W.Frag} {mg : Str → Option Value} {base : Heap} {cm : CM}
abbrev cfE (K : PySem.W.Frag) (cm : CM) (rm : Bool) (E : XK) : Cf := ⟨K, cm, fun cls d _ H => E cls d H, none, rm⟩
/-- THE RULE for a def: its body by data -/
theorem dok {x qual : Str} {st : Stmt} {f : Addr} {fd : FuncData} {N ps : List Str} {k : Nat} {ms : List Bool} {rm : Bool} {G' : List Ow} {Fb : Rho → SR} (F : Fun K x qual st f fd) (S : FnScope N ps (defScope st)) (hm : ms.length = ps.length) (hn : ps.length ≤ N.length)
    (hb : ∀ (cdv : Value) (A : Around) (outer : List Env) (s : Shared) (H : Hp) (E : XK), Room k (A.deeper (PyProof.Rows.envOfC qual (defScope st) s.heap.objs.size f cdv)) →
      PSs (cxOf (L2.CX P w) P w K mg base N qual (defScope st) f cdv A outer s H E) (defBody st) (sD (cfE K cm rm E) [] (G0 ms N.length) G' Fb)) :
    FnOk P w K mg base (L2.CX P w) (k + 1) f fd ps (spD K cm ms rm (runF N.length rm Fb)) := by
  refine F.okX S (fun vs H Q E h => ?_) (fun cdv A outer s H vs Q E hr h => ?_)
  · obtain ⟨S, ds, _, m, _⟩ := h
    rw [m.len.1, hm]
  · obtain ⟨S, ds, ex, m, q⟩ := h
    refine ⟨_, hb cdv A outer s H E hr, S, H, S, startR N.length ds, env_start ex (RpM.cf (c := ⟨K, cm, fun _ _ _ _ => False, none, rm⟩) (c' := cfE K cm rm E) rfl rfl m) (by omega), ?_⟩
    unfold runF at q
    cases hF : Fb (startR N.length ds) with
    | rt d =>
      rw [hF] at q
      show PostS _ _ _ _ _ (.rt d) _
      unfold PostS
      dsimp only
      cases rm with
      | true => exact fun p ho S' H' fw n ns hp hh => q S' H' fw _ ⟨p, ho, rfl, n, ns, hp, hh⟩
      | false => exact fun v S' H' fw hv => q S' H' fw v hv
    | nx r =>
      rw [hF] at q
      cases rm with
      | true => exact q.elim
      | false => exact fun σ' S' H' ok => q S' H' ok.fwd _ Rp.non
    | er r n ns vs =>
      rw [hF] at q
      exact fun C dd σ' S' H' fs h1 fw _ h2 h3 h4 => q C dd S' H' fs h1 fw h2 h3 h4
    | bk r => rw [hF] at q; exact q.elim
    | ct r => rw [hF] at q; exact q.elim
    | bad => rw [hF] at q; exact q.elim
end
end Dx
end S_DxF
section S_DxG
set_option Elab.async false
set_option linter.all false
set_option maxRecDepth 100000
set_option maxHeartbeats 2000000
namespace Dx
open PySem L2
section
variable {X : Cx} {c : Cf} {L G G' : List Ow}
def spX1 (K : PySem.W.Frag) (C : Addr) (f : Str) : Sp := fun vs H Q _ => ∃ (a : Addr) (w : V), vs = [.ref a, w] ∧ OexC K C ∧ PySem.W.findIn K (.ref C) f = some none ∧ H a = some (exo a C none) ∧
  ∀ d, H d = none → d ≠ a → Q .non (upd (upd H d (exd d [(f, w)])) a (exo a C (some d)))
theorem xinit1 {P : Program} {w : World} {K : PySem.W.Frag} {mg : Str → Option Value} {base : Heap} {qual : Str} {st : Stmt} {fI C : Addr} {fd : FuncData} {N ps : List Str} {fl : Str} (F : Fun K "__init__" qual st fI fd) (S : FnScope N ps (defScope st)) (hl : ps.length = 2) (hN : N.length = 2)
    (hb : ∀ (cdv : Value) (A : Around) (outer : List Env) (s : Shared) (H : Hp) (E : XK), PSs (cxOf (L2.CX P w) P w K mg base N qual (defScope st) fI cdv A outer s H E) (defBody st) (tOst K fl (tVar 0) (tVar 1))) :
    FnOk P w K mg base (L2.CX P w) 1 fI fd ps (spX1 K C fl) := by
  refine F.okX (k := 0) S (fun vs H Q E h => ?_) (fun cdv A outer s H vs Q E hr h => ?_)
  · obtain ⟨a, w, rfl, _⟩ := h; exact hl.symm
  · obtain ⟨a, w', rfl, T, hno, ha, q⟩ := h
    refine ⟨_, hb cdv A outer s H E, ?_⟩
    have e : L2.start N [.ref a, w'] = [some (.ref a), some w'] := by unfold L2.start; rw [hN]; rfl
    rw [e]
    exact ⟨w', rfl, .ref a, rfl, a, C, rfl, T, hno, .inl ⟨ha, q⟩⟩
def raiF (n : Str) (ns : List Str) (rev : Bool) (fs : Rho → Res (List D)) : Rho → SR := fun r => liftS r (fs r) fun ds => if ds.length = ns.length then .er r n ns (if rev then ds.reverse else ds) else .bad
variable {e e2 : Expr} {fs : Rho → Res (List D)} {x n : Str} {C fI : Addr} {fd : FuncData} {ps : List Str} {p p' pos : Pos} {fl gl : Str}
theorem heap_x1 {H1 : Hp} {a d C : Addr} {o1 o2 o3 o4 o : HO} (ha : H1 a = none) (hne : d ≠ a) : upd (del (upd (upd (upd H1 a o1) d o2) a o3) a) d o = upd H1 d o := by
  funext b
  by_cases hb : b = d
  · subst hb; rw [upd_same, upd_same]
  · rw [upd_ne hb, upd_ne hb]
    by_cases hba : b = a
    · subst hba; rw [del_same, ha]
    · rw [del_ne hba, upd_ne hba, upd_ne hb, upd_ne hba]
theorem ds_raise1 (hg : Gok c G) (hcn : c.cm n = some C) (hc : X.calm = true) (tk : Takes X c.W) (T : OexC X.K C) (iC : PySem.W.findIn X.K (.ref C) "__init__" = some (some (.ref fI))) (tI : PySem.W.typeIn X.K (.ref fI) = some (.type "function")) (hno : PySem.W.findIn X.K (.ref C) fl = some none)
    (F1 : FnOk X.prog X.w X.K X.mg X.base (L2.CX X.prog X.w) 1 fI fd ps (spX1 X.K C fl)) (hr : Room 2 X.A) (hb : Binds X.K fd ps []) (hgx : Gl X x) (hm : X.mg x = some (.ref C)) (ha : PA X [e] (tAs c G fs))
    (hdb : (x == ("__debug__" : Str)) = false := by decide) (he : starEach [e] X.env = (false, eval e X.env) :: starEach [] X.env := by rfl) :
    PS X (.Raise (some (.Call (.Name x p) [e] [] p')) none pos) (sD c L G G' (raiF n [fl] false fs)) :=
  ps_imp (ps_raise hc tk (pmk_oex T iC tI F1 hr hb .nil passL hgx hm ha hdb he rfl)) fun E σ H ⟨S0, H0, S, r, ok, q⟩ => st_seq hg ok q fun ds vs S1 H1 w1 o1 m1 p1 => by
    obtain ⟨hl, p1⟩ := p1.ite
    match ds, vs, m1, hl with
    | [d1], [v1], .cons hv .nil, _ =>
      refine ⟨by show 1 ≤ 1000; decide, fun a na => ⟨a, v1, rfl, T, hno, upd_same, fun d hd hne => ⟨rfl, d, [(fl, v1)], upd_same, by rw [upd_ne hne, upd_same], by rw [upd_ne hne] at hd; exact hd, ?_⟩⟩⟩
      rw [upd_ne hne] at hd
      rw [heap_x1 (C := C) (o4 := .lst []) na hne]
      exact p1 C d σ (upd S1 d (.xd [(fl, v1)])) _ [(fl, v1)] hcn (o1.fwd.trans (Fwd.both o1.ex hd)) (fun g hgg => by rw [hg g hgg]; exact o1.go (Fwd.both o1.ex hd)) upd_same rfl (.cons (hv.mono (Ex.new (o1.ex.nn hd))) .nil)
def unsetS (i : Nat) : SR → SR
  | .nx r => .nx (r.set i none)
  | .bk r => .bk (r.set i none)
  | .ct r => .ct (r.set i none)
  | .er _ _ _ _ => .bad
  | o => o
def tryF (isM : Str → Option Bool) (i : Nat) (Fb Fs : Rho → SR) : Rho → SR := fun r => match Fb r with
  | .er r' n ns vs => match isM n with
    | some true => unsetS i (Fs (r'.set i (some (.obj n ns vs))))
    | some false => .er r' n ns vs
    | none => .bad
  | o => o
theorem EnvOk.unset {S0 H0 S H : Hp} {σ : St} {r : Rho} (e : EnvOk c S0 H0 G S H σ r) (i : Nat) : EnvOk c S0 H0 (G.set i .v) S H (σ.set i none) (r.set i none) := by
  refine ⟨e.fwd, by simp [e.len], fun j d h => ?_, fun j k d d' p hj hk kj kk sj sk => ?_, let ⟨A, hA⟩ := e.sto; ⟨A, hA.sub (fun a ha => (hA.out a ha).1) (fun _ _ => rfl) Ex.refl (fun j d p hj kj sj => ?_) fun j d kj hj => ?_⟩⟩
  · rcases set_some h with ⟨_, z, _⟩ | ⟨ne, h⟩
    · cases z
    · obtain ⟨v, h1, h2⟩ := e.slot j d h
      exact ⟨v, by rw [List.getElem?_set_ne ne]; exact h1, by rw [kd_set_ne ne]; exact h2⟩
  · rcases set_some hj with ⟨_, z, _⟩ | ⟨nj, hj⟩
    · cases z
    · rcases set_some hk with ⟨_, z, _⟩ | ⟨nk, hk⟩
      · cases z
      · rw [kd_set_ne nj] at kj
        rw [kd_set_ne nk] at kk
        rw [List.getElem?_set_ne nj] at sj
        rw [List.getElem?_set_ne nk] at sk
        exact e.sep j k d d' p hj hk kj kk sj sk
  · rcases set_some hj with ⟨_, z, _⟩ | ⟨nj, hj⟩
    · cases z
    · rw [kd_set_ne nj] at kj
      rw [List.getElem?_set_ne nj] at sj
      exact hA.own j d p hj kj sj
  · rcases set_some hj with ⟨_, z, _⟩ | ⟨nj, hj⟩
    · cases z
    · rw [kd_set_ne nj, List.getElem?_set_ne nj]
      exact ⟨rfl, hj, rfl⟩
/-- the slot of a caught exception -/
theorem EnvOk.setX {c' : Cf} {S0 H0 S H : Hp} {σ : St} {r : Rho} {a C dd : Addr} {n : Str} {ns : List Str} {vs : List D} {fs : List (Str × V)} (e : EnvOk c S0 H0 G S H σ r) (hK : c'.K = c.K) (hcm : c'.cm = c.cm) (i : Nat) (hi : i < G.length) (h1 : c.cm n = some C) (h2 : S dd = some (.xd fs)) (h3 : ns = fs.map (·.1)) (h4 : RpA c.K c.cm S (fs.map (·.2)) vs) :
    EnvOk c' S0 H0 (G.set i (.x a C dd)) S H (σ.set i (some (.ref a))) (r.set i (some (.obj n ns vs))) := by
  have sl : ∀ k v d, SlotOk c H0 S H k v d → SlotOk c' H0 S H k v d := fun k v d h => by
    cases k with
    | v => unfold SlotOk at h ⊢; rw [hK, hcm]; exact h
    | o => unfold SlotOk at h ⊢; rw [hK, hcm]; exact h
    | b => unfold SlotOk at h ⊢; rw [hK, hcm]; exact h
    | s P => exact h
    | w => exact h
    | x a C dd => unfold SlotOk at h ⊢; rw [hK, hcm]; exact h
    | i a => unfold SlotOk at h ⊢; rw [hK, hcm]; exact h
  have sto' : ∃ A, StoOk c'.K c'.cm H0 (G.set i (.x a C dd)) S H (σ.set i (some (.ref a))) (r.set i (some (.obj n ns vs))) A := by
    obtain ⟨A, hA⟩ := e.sto
    rw [hK, hcm]
    refine ⟨A, hA.sub (fun a ha => (hA.out a ha).1) (fun _ _ => rfl) Ex.refl (fun j d p hj kj sj => ?_) fun j d kj hj => ?_⟩
    · have nj : i ≠ j := fun z => by subst z; rw [kd_set_o hi] at kj; cases kj
      rw [List.getElem?_set_ne nj] at hj sj
      rw [kd_set_ne nj] at kj
      exact hA.own j d p hj kj sj
    · have nj : i ≠ j := fun z => by subst z; rw [kd_set_o hi] at kj; rcases kj with ⟨_, kj⟩ | kj <;> cases kj
      rw [List.getElem?_set_ne nj] at hj
      rw [kd_set_ne nj, List.getElem?_set_ne nj]
      exact ⟨rfl, hj, rfl⟩
  refine ⟨e.fwd, by simp [e.len], fun j d h => ?_, fun j k d d' p hj hk kj kk sj sk => ?_, sto'⟩
  · rcases set_some h with ⟨rfl, z, hl⟩ | ⟨ne, h⟩
    · cases z
      refine ⟨.ref a, by rw [List.getElem?_set_self (by rw [e.len]; exact hl)], ?_⟩
      rw [kd_set_o hi]
      exact ⟨rfl, n, ns, vs, fs, rfl, by rw [hcm]; exact h1, h2, h3, by rw [hK, hcm]; exact h4⟩
    · obtain ⟨v, q1, q2⟩ := e.slot j d h
      exact ⟨v, by rw [List.getElem?_set_ne ne]; exact q1, by rw [kd_set_ne ne]; exact sl _ _ _ q2⟩
  · have nj : i ≠ j := fun z => by subst z; rw [kd_set_o hi] at kj; cases kj
    have nk : i ≠ k := fun z => by subst z; rw [kd_set_o hi] at kk; cases kk
    rw [List.getElem?_set_ne nj] at hj sj
    rw [List.getElem?_set_ne nk] at hk sk
    rw [kd_set_ne nj] at kj
    rw [kd_set_ne nk] at kk
    exact e.sep j k d d' p hj hk kj kk sj sk
/-- the kinds told ahead; what they are is the same whatever the wishes -/
theorem EnvOk.cf {c' : Cf} {S0 H0 S H : Hp} {σ : St} {r : Rho} (e : EnvOk c S0 H0 G S H σ r) (hK : c'.K = c.K) (hcm : c'.cm = c.cm) : EnvOk c' S0 H0 G S H σ r := by
  refine ⟨e.fwd, e.len, fun j d h => ?_, e.sep, by rw [hK, hcm]; exact e.sto⟩
  obtain ⟨v, q1, q2⟩ := e.slot j d h
  refine ⟨v, q1, ?_⟩
  cases kj : kd G j with
  | v => rw [kj] at q2; unfold SlotOk at q2 ⊢; rw [hK, hcm]; exact q2
  | o => rw [kj] at q2; unfold SlotOk at q2 ⊢; rw [hK, hcm]; exact q2
  | b => rw [kj] at q2; unfold SlotOk at q2 ⊢; rw [hK, hcm]; exact q2
  | s P => rw [kj] at q2; exact q2
  | w => rw [kj] at q2; exact q2
  | x a C dd => rw [kj] at q2; unfold SlotOk at q2 ⊢; rw [hK, hcm]; exact q2
  | i a => rw [kj] at q2; unfold SlotOk at q2 ⊢; rw [hK, hcm]; exact q2
abbrev Cf.try (c : Cf) (W : WX) (G : List Ow) : Cf := ⟨c.K, c.cm, W, some G, c.rm⟩
theorem ds_try {nm xn : Str} {cv : Value} {i : Nat} {body suite : List Stmt} {b0 : Stmt} {np p1 : Pos} {isM : Str → Option Bool} {Fb Fs : Rho → SR} {Gs : List Ow} (hge : Gok c G) (hs : X.stack = X.env :: X.outer) (hf : X.env.frame = some X.env.locals) (hN : X.N.Nodup) (hi : X.N[i]? = some nm) (hln : X.env.kindOf nm = some .local) (hc : Names X xn cv) (tk : Takes X c.W)
    (hG : i < G.length) (hM : ∀ n C b, c.cm n = some C → isM n = some b → PySem.W.exmOne X.K (.ref C) cv = some b)
    (hb : ∀ (W : WX) (pn : List (Addr × Obj)) (xe : Value → Shared → Prop), Takes (X.tr pn xe) W → PassesOwn (model X.prog X.w) X.A X.env xe → PSs (X.tr pn xe) body (sD (c.try W G) L G G' Fb))
    (hsu : ∀ (a C dd : Addr) (oe : Obj) (pn : List (Addr × Obj)), (∃ n, c.cm n = some C ∧ isM n = some true) → Zc (.ref C) (some dd) oe → (∃ vs, oe.data = .fields vs) → PSs (X.suite a ((a, oe) :: pn)) (b0 :: suite) (sD c.calm (L.set i (.x a C dd)) (G.set i (.x a C dd)) (Gs.set i (.x a C dd)) Fs))
    (hGs : Gs.set i .v = G') (hL : L.set i .v = L) :
    PS X (.Try body [.ExceptHandler (some (.Name xn np)) (some nm) (b0 :: suite) p1] [] [] pos) (sD c L G G' (tryF isM i Fb Fs)) := by
  refine ps_imp (ps_try_as (tb := fun W => sD (c.try W G) L G G' Fb) (ts := fun a cls d => fun E σ H => ∃ C dd, cls = .ref C ∧ d = some dd ∧ (∃ n, c.cm n = some C ∧ isM n = some true) ∧ sD c.calm (L.set i (.x a C dd)) (G.set i (.x a C dd)) (Gs.set i (.x a C dd)) Fs E σ H) hs hf hN hi hln hc tk hb ?_) ?_
  · intro a oe cls d pn hz hff
    refine ⟨fun pins s σ H E I ⟨C, dd, hC, hd, hin, q⟩ => ?_⟩
    subst hC hd
    exact (hsu a C dd oe pn hin hz hff).run pins s σ H E I q
  · rintro E σ H ⟨S0, H0, S, r, ok, p⟩
    refine ⟨S0, H0, S, r, ok.cf rfl rfl, ?_⟩
    unfold tryF at p
    cases hF : Fb r with
    | nx r' => rw [hF] at p; exact fun σ' S' H' e => p σ' S' H' (e.cf rfl rfl)
    | rt d => rw [hF] at p; exact p
    | bk r' => rw [hF] at p; exact fun σ' S' H' e => p σ' S' H' (e.cf rfl rfl)
    | ct r' => rw [hF] at p; exact fun σ' S' H' e => p σ' S' H' (e.cf rfl rfl)
    | bad => rw [hF] at p; exact p.elim
    | er r' n ns vs =>
      rw [hF] at p
      intro C dd σ' S' H' fs h1 fw h2 h3 h4 h5
      have e1 : EnvOk (c.try _ G) S0 H0 G S' H' σ' r' := h2 G rfl
      dsimp only at p
      cases hI : isM n with
      | none => rw [hI] at p; exact p.elim
      | some b =>
        rw [hI] at p
        refine ⟨b, hM n C b h1 hI, fun hb1 a ha => ?_, fun hb0 => ?_⟩
        · subst hb1
          refine ⟨C, dd, rfl, rfl, ⟨n, h1, hI⟩, S0, H0, S', _, e1.setX (c' := c.calm) (a := a) rfl rfl i hG h1 h3 h4 h5, ?_⟩
          have p : PostS c S0 H0 L G' (unsetS i (Fs (r'.set i (some (.obj n ns vs))))) E := p
          cases hS : Fs (r'.set i (some (.obj n ns vs))) with
          | nx r2 =>
            rw [hS] at p
            intro σ2 S2 H2 e2
            have := (EnvOk.cf (c' := c) e2 rfl rfl).unset i
            rw [List.set_set, hGs] at this
            exact p _ S2 H2 this
          | rt d => rw [hS] at p; exact p
          | bk r2 =>
            rw [hS] at p
            intro σ2 S2 H2 e2
            have := (EnvOk.cf (c' := c) e2 rfl rfl).unset i
            rw [List.set_set, hL] at this
            exact p _ S2 H2 this
          | ct r2 =>
            rw [hS] at p
            intro σ2 S2 H2 e2
            have := (EnvOk.cf (c' := c) e2 rfl rfl).unset i
            rw [List.set_set, hL] at this
            exact p _ S2 H2 this
          | er _ _ _ _ => rw [hS] at p; exact p.elim
          | bad => rw [hS] at p; exact p.elim
        · subst hb0
          exact p C dd σ' S' H' fs h1 fw (fun g hg => by rw [hge g hg]; exact EnvOk.cf (c' := c) e1 rfl rfl) h3 h4 h5
def lookF (ns : List Str) (vs : List D) (f : Str) : Option D := (ns.zip vs).lookup f
def dXf (i : Nat) (f : Str) : Rho → Res D := fun r => match r[i]? with
  | some (some (.obj _ ns vs)) => match lookF ns vs f with
    | some d => .ok d
    | none => .bad
  | _ => .bad
theorem look_rp {K : PySem.W.Frag} {cm : CM} {S : Hp} {f : Str} {d : D} : ∀ {fs : List (Str × V)} {vs : List D}, RpA K cm S (fs.map (·.2)) vs → lookF (fs.map (·.1)) vs f = some d → ∃ v, fs.lookup f = some v ∧ Rp K cm S v d
  | [], vs, h, q => by cases h; cases q
  | (g, u) :: fs, _, h, q => by
    cases h with | @cons _ _ d' ds hu hr =>
    unfold lookF at q
    rw [List.map_cons, List.zip_cons_cons, List.lookup_cons] at q
    rw [List.lookup_cons]
    by_cases hfg : (f == g) = true
    · rw [hfg] at q ⊢; cases q; exact ⟨u, rfl, hu⟩
    · have : (f == g) = false := by simpa using hfg
      rw [this] at q ⊢
      exact look_rp hr q
theorem de_xf {a C dd : Addr} {oe : Obj} {pn : List (Addr × Obj)} {i : Nat} {nm f : Str} {pn' : Pos} (T : XfC X.K C) (hno : PySem.W.findIn X.K (.ref C) f = some none) (k : kd G i = .x a C dd)
    (hz : Zc (.ref C) (some dd) oe) (hf : ∃ vs, oe.data = .fields vs) (he : PE (X.suite a ((a, oe) :: pn)) (.Name nm pn') (tVar i)) (hb : attributeBase (.Name nm pn') f X.env (eval (.Name nm pn') X.env) = eval (.Name nm pn') X.env := by rfl) :
    PE (X.suite a ((a, oe) :: pn)) (.Attribute (.Name nm pn') f pos) (tV c G (dXf i f)) := pe_imp (pe_xf T hno hz hf he hb) fun σ H Q ⟨S0, H0, S, r, ok, p⟩ => by
  unfold dXf at p
  split at p
  · rename_i n ns vs hr
    obtain ⟨v, h1, h2⟩ := ok.slot i _ hr
    rw [k] at h2
    obtain ⟨rfl, n', ns', ds', fs, z1, z2, z3, z4, z5⟩ := h2
    cases z1
    split at p
    · rename_i d hd
      rw [z4] at hd
      obtain ⟨u, q1, q2⟩ := look_rp z5 hd
      exact ⟨.ref a, h1, rfl, rfl, dd, fs, u, rfl, ok.ex _ _ z3, q1, p.here ok.ex q2⟩
    · exact p.elim
  · exact p.elim
/-- isinstance(e, c), e the exception that the suite holds -/
def rIsX (K : PySem.W.Frag) (C a dd : Addr) : List V → Hp → VK → Prop := fun xs H Q => ∃ (c : V) (cv : Value) (b : Bool) (fs : List (Str × V)), xs = [.ref a, c] ∧ (∀ u, RelV c u → u = cv) ∧ H dd = some (.xd fs) ∧ PySem.W.kitOne K (.ref C) cv = some b ∧ Q (.bl b) H
theorem call_isX {a C dd : Addr} {oe : Obj} {pn : List (Addr × Obj)} (T : ExcC X.K C) (hz : Zc (.ref C) (some dd) oe) (hf : ∃ vs, oe.data = .fields vs) : CallR (X.suite a ((a, oe) :: pn)) (.builtin "isinstance") (rIsX X.K C a dd) := by
  intro pins s σ H xs us Q I r h
  obtain ⟨cc, cv, b, fs, rfl, hcv, hdd, hk, q⟩ := h
  match us, r with
  | [u1, u2], .cons rx (.cons rt .nil) =>
    cases rx
    have ec := hcv _ rt
    subst ec
    have hpin := (I.pin (a, oe) (List.mem_append_left _ List.mem_cons_self)).1
    obtain ⟨vs, hv⟩ := hf
    have hx : ObjOk X.prog X.w H s.heap dd (.xd fs) := I.hok dd _ hdd
    obtain ⟨mA, hns, _⟩ := hx
    obtain ⟨od, ho, _⟩ := lookIn_ns hns
    have J : PySem.W.InstAt s.heap a oe C (some od) := ⟨hpin, hz.1, by unfold PySem.W.notCls; rw [hv], by rw [hz.2]; exact ho⟩
    have hcl : (PySem.W.clsIn X.K C).isSome = true := by
      have h1 := T.hd
      unfold PySem.W.hasDictIn at h1
      cases hc : PySem.W.clsIn X.K C with
      | none => rw [hc] at h1; cases h1
      | some _ => rfl
    exact PySem.W.kia_one (PySem.W.kitx_exc hcl T.hg T.hk T.hs T.ha T.hn T.ht T.hm) I.kIn J hk (fun z => nomatch z) fun tk => ⟨.bl b, H, I.kept (t' := tk) fun _ _ z => z, rfl, q⟩
/-- isM: which of the classes that are caught are of this class -/
def dIsX (isM : Str → Option Bool) (i : Nat) : Rho → Res D := fun r => match r[i]? with
  | some (some (.obj n _ _)) => match isM n with
    | some b => .ok (.bl b)
    | none => .bad
  | _ => .bad
theorem de_isX {a C dd : Addr} {oe : Obj} {pn : List (Addr × Obj)} {i : Nat} {nm xc : Str} {pn' pc : Pos} {isM : Str → Option Bool} {v : V} {cv : Value} (k : kd G i = .x a C dd) (T : ExcC X.K C) (hz : Zc (.ref C) (some dd) oe) (hf : ∃ vs, oe.data = .fields vs)
    (hcv : ∀ u, RelV v u → u = cv) (hM : ∀ n b, c.cm n = some C → isM n = some b → PySem.W.kitOne X.K (.ref C) cv = some b)
    (hm : X.mg "isinstance" = none) (hg : Gl X "isinstance") (hv : PE (X.suite a ((a, oe) :: pn)) (.Name nm pn') (tVar i)) (hT : PE (X.suite a ((a, oe) :: pn)) (.Name xc pc) (tC v))
    (hs1 : starEach [.Name nm pn', .Name xc pc] X.env = (false, eval (.Name nm pn') X.env) :: starEach [.Name xc pc] X.env := by rfl) (hs2 : starEach [.Name xc pc] X.env = (false, eval (.Name xc pc) X.env) :: starEach [] X.env := by rfl) (hpl : (backTo pos (starEach [.Name xc pc] X.env)).any (·.1) = false := by rfl) :
    PE (X.suite a ((a, oe) :: pn)) (.Call (.Name "isinstance" p) [.Name nm pn', .Name xc pc] [] pos) (tV c G (dIsX isM i)) := by
  refine pe_imp (pe_callB (call_isX T hz hf) hg hm (by decide +kernel) (pa_cons hv (pa_cons hT pa_nil hs2) hs1) (he := hs1) (hpl := hpl)) fun σ H Q ⟨S0, H0, S, r, ok, p⟩ => ?_
  unfold dIsX at p
  split at p
  · rename_i n ns vs hr
    obtain ⟨v', h1, h2⟩ := ok.slot i _ hr
    rw [k] at h2
    obtain ⟨rfl, n', ns', ds', fs, z1, z2, z3, z4, z5⟩ := h2
    cases z1
    split at p
    · rename_i b hb
      exact ⟨.ref a, h1, v, cv, b, fs, rfl, hcv, ok.ex _ _ z3, hM n b z2 hb, p.here ok.ex (.bl _)⟩
    · exact p.elim
  · exact p.elim
end
end Dx
end S_DxG
section S_DxT
set_option Elab.async false
set_option linter.all false
set_option maxRecDepth 100000
set_option maxHeartbeats 2000000
namespace Dx
open PySem L2
theorem gok0 {K : PySem.W.Frag} {cm : CM} {rm : Bool} {E : XK} {G : List Ow} : Gok (cfE K cm rm E) G := fun _ h => nomatch h
theorem gokC {c : Cf} {G : List Ow} : Gok c.calm G := fun _ h => nomatch h
theorem gokT {c : Cf} {W : WX} {G : List Ow} : Gok (c.try W G) G := fun _ h => (Option.some.inj h).symm
theorem hu65 {k : Nat} {A : Around} (hr : Room k A) : A.units + 65 < cLine := by have := hr.un; omega
theorem fnok_bad {P : Program} {w : World} {K : PySem.W.Frag} {mg : Str → Option Value} {base : Heap} {CX : CXT} {k : Nat} {f : Addr} {fd : FuncData} {ps : List Str} {cm : CM} {ms : List Bool} {rm : Bool} : FnOk P w K mg base CX k f fd ps (spD K cm ms rm fun _ => .bad) :=
  ⟨fun _ _ _ _ ⟨_, _, _, _, h⟩ => h.elim, fun _ _ _ _ _ _ _ _ _ _ _ _ _ ⟨_, _, _, _, h⟩ => h.elim⟩
theorem ints_rp {K : PySem.W.Frag} {cm : CM} {S : Hp} : ∀ ns : List Int, RpA K cm S (ns.map V.int) (ns.map D.int)
  | [] => .nil
  | n :: ns => .cons (.int n) (ints_rp ns)
theorem law_sp {K : PySem.W.Frag} {cm : CM} {F : List D → Res D} {ns : List Int} {H : Hp} {a : Addr} {Q : VK} {E : XK} (h : F [.fz (ns.map D.int)] = .ok (.bl true)) (hS : SqL K H a (ns.map V.int)) (k : ∀ H', Q (.bl true) H') : spD K cm [false] false F [.ref a] H Q E :=
  ⟨H, [.fz (ns.map D.int)], Ex.refl, ⟨.fz hS (ints_rp ns), trivial⟩, by
    rw [h]
    intro S' H' w b hb
    cases hb
    exact k H'⟩
theorem cx_never {P : Program} {w : World} {outer : List Env} {H : Hp} {s s' : Shared} {e : Value} (h : L2.CX P w outer H s (fun _ _ _ => False) e s') : False := by
  obtain ⟨_, _, _, _, _, _, _, _, _, _, _, _, hf⟩ := h
  exact hf
section
variable {X : Cx} {c : Cf} {L G G' : List Ow} {f f1 f2 : Rho → Res D} {o e : Expr} {pos apos : Pos}
def asS : D → Res Str
  | .str s => .ok s
  | _ => .bad
def MtS (c : Cf) (R : Md V D) (r : V → List V → Hp → VK → Prop) (g : D → D → Res D) : Prop := ∀ (σ : St) (S H : Hp) (x y : V) (d e : D) (Q : VK), Ex S H → RpB c.K c.cm S H x d → RpB c.K c.cm S H y e →
  PostG c σ S H (g d e) (fun a S' H' => ∀ b, R H S' H' b a → Q b H') → r x [y] H Q
def dStr (g : D → D → Res D) (f1 f2 : Rho → Res D) : Rho → Res D := fun r => (f1 r).bind fun x => (asS x).bind fun _ => (f2 r).bind fun y => g x y
theorem de_m1 {R : Md V D} [Anti R] {id : String} {name : Str} {r : V → List V → Hp → VK → Prop} {g : D → D → Res D} (slot : Slot "str" name id) (ty : typeOf (.builtin id) = pure (.type "method_descriptor")) (rule : MtR X id r) (hs : MtS c R r g) (ho : PE X o (tR c G f1)) (he : PE X e (tR c G f2))
    (hst : starEach [e] X.env = [(false, eval e X.env)] := by rfl) (hbase : attributeBase o name X.env (eval o X.env) = eval o X.env := by rfl) (hline : (apos.endLine == pos.line) = true := by rfl) :
    PE X (.Call (.Attribute o name apos) [e] [] pos) (rd c G (dStr g f1 f2) R) := pe_imp (pe_m1 slot ty rule ho he hst hbase hline) fun σ H Q ⟨S0, H0, S, r, ok, p⟩ => rd_seq ok p fun x v S1 H1 w1 o1 m1 p1 => by
  cases x with
  | str z =>
    have hv := RpB.str m1
    exact ⟨⟨z, hv⟩, rd_seq o1 (show PostG c σ S1 H1 ((f2 r).bind fun y => g (.str z) y) _ from p1) fun y u S2 H2 w2 o2 m2 p2 => hs σ S2 H2 v u (.str z) y Q o2.ex (RpB.mono m1 w2.s w2.h) m2 (p2.anti (w1.h.trans w2.h))⟩
  | _ => exact p1.elim
def strsD (zs : List Str) : List D := zs.map .str
theorem strs_rp {K : PySem.W.Frag} {cm : CM} {S : Hp} : ∀ zs : List Str, RpA K cm S (zs.map V.str) (strsD zs)
  | [] => .nil
  | z :: zs => .cons (.str z) (strs_rp zs)
noncomputable def splitD : D → D → Res D
  | .str a, .str b => guard ((b.length == 0) = false ∧ a.length + 2 ≤ sizeLine) (.ok (.lst (strsD (Txt.split a b))))
  | _, _ => .bad
theorem ms_split : MtS c (mO c) (fun x xs H Q => ∃ a b, x = .str a ∧ xs = [.str b] ∧ (b.length == 0) = false ∧ a.length + 2 ≤ sizeLine ∧ rNewStrs (Txt.split a b) H Q) splitD := by
  intro σ S H x y d e Q ex hx hy p
  unfold splitD at p
  split at p
  · obtain ⟨hl, p⟩ := p.gd
    cases hx.str; cases hy.str
    exact ⟨_, _, rfl, rfl, hl.1, hl.2, fun q hq => p.kept ex hq (.lst (strs_rp _))⟩
  · exact p.elim
noncomputable def partD : D → D → Res D
  | .str a, .str b => guard ((b.length == 0) = false ∧ a.length ≤ sizeLine) (.ok (.tup [.str (Txt.partition a b).1, .str (Txt.partition a b).2.1, .str (Txt.partition a b).2.2]))
  | _, _ => .bad
theorem ms_part : MtS c (mV c) (fun x xs H Q => ∃ a b, x = .str a ∧ xs = [.str b] ∧ (b.length == 0) = false ∧ a.length ≤ sizeLine ∧
    ∀ p, H p = none → Q (.ref p) (upd H p (.tup [.str (Txt.partition a b).1, .str (Txt.partition a b).2.1, .str (Txt.partition a b).2.2]))) partD := by
  intro σ S H x y d e Q ex hx hy p
  unfold partD at p
  split at p
  · obtain ⟨hl, p⟩ := p.gd
    cases hx.str; cases hy.str
    exact ⟨_, _, rfl, rfl, hl.1, hl.2, fun q hq => p.laid ex hq (.tup upd_same (.cons (.str _) (.cons (.str _) (.cons (.str _) .nil))))⟩
  · exact p.elim
def startD : D → D → Res D
  | .str a, .str b => .ok (.bl (Txt.startswith a b))
  | _, _ => .bad
def endD : D → D → Res D
  | .str a, .str b => .ok (.bl (Txt.endswith a b))
  | _, _ => .bad
/-- the texts of a list or a tuple -/
def allStr : List D → Option (List Str)
  | [] => some []
  | .str z :: ds => (allStr ds).map (z :: ·)
  | _ :: _ => none
theorem allStr_rp {K : PySem.W.Frag} {cm : CM} {S : Hp} : ∀ {ds : List D} {vs : List V} {zs : List Str}, RpA K cm S vs ds → allStr ds = some zs → vs = zs.map V.str
  | [], _, _, h, q => by cases h; cases q; rfl
  | d :: ds, _, _, h, q => by
    cases h with | cons hd hr =>
    cases d with
    | str z =>
      rw [allStr] at q
      obtain ⟨zs, h1, rfl⟩ := Option.map_eq_some_iff.mp q
      cases hd
      rw [allStr_rp hr h1]; rfl
    | _ => cases q
noncomputable def joinZ (a : Str) : Option (List Str) → Res D
  | some zs => guard ((zs.map (·.length)).sum + zs.length * a.length ≤ 16777216) (.ok (.str (Txt.join a zs)))
  | none => .bad
noncomputable def joinD : D → D → Res D
  | .str a, d => (items d).bind fun ds => joinZ a (allStr ds)
  | _, _ => .bad
theorem ms_join (hK : c.K = X.K := by rfl) : MtS c (mV c) (fun x xs H Q => ∃ a p, ∃ ys : List Str, x = .str a ∧ xs = [.ref p] ∧ (SqL X.K H p (ys.map V.str) ∨ SqT X.K H p (ys.map V.str)) ∧
    (ys.map (·.length)).sum + ys.length * a.length ≤ 16777216 ∧ Q (.str (Txt.join a ys)) H) joinD := by
  intro σ S H x y d e Q ex hx hy p
  cases d with
  | str a =>
    cases hx.str
    have fin : ∀ ds, items e = .ok ds → ∃ zs, allStr ds = some zs ∧ (zs.map (·.length)).sum + zs.length * a.length ≤ 16777216 ∧ Q (.str (Txt.join a zs)) H := fun ds hds => by
      replace p : PostG c σ S H ((items e).bind fun ds => joinZ a (allStr ds)) (fun a S' H' => ∀ b, mV c H S' H' b a → Q b H') := p
      rw [hds] at p
      replace p : PostG c σ S H (joinZ a (allStr ds)) (fun a S' H' => ∀ b, mV c H S' H' b a → Q b H') := p
      cases hz : allStr ds with
      | none => rw [hz] at p; exact p.elim
      | some zs =>
        rw [hz] at p
        obtain ⟨hl, p⟩ := p.gd
        exact ⟨zs, rfl, hl, p.here ex (.str _)⟩
    rw [← hK]
    cases e with
    | lst ds =>
      obtain ⟨q, xs, rfl, a1, r1⟩ := hy.list ex
      obtain ⟨zs, h1, h2, h3⟩ := fin ds rfl
      have := allStr_rp r1 h1; subst this
      exact ⟨a, q, zs, rfl, rfl, .inl (.inl (.inl a1)), h2, h3⟩
    | fz ds =>
      obtain ⟨q, xs, rfl, a1, r1⟩ := hy.fz ex
      obtain ⟨zs, h1, h2, h3⟩ := fin ds rfl
      have := allStr_rp r1 h1; subst this
      exact ⟨a, q, zs, rfl, rfl, .inl a1, h2, h3⟩
    | tup ds =>
      obtain ⟨q, xs, rfl, a1, r1, s1⟩ := hy.tup ex
      obtain ⟨zs, h1, h2, h3⟩ := fin ds rfl
      have := allStr_rp r1 h1; subst this
      exact ⟨a, q, zs, rfl, rfl, .inr a1, h2, h3⟩
    | _ => exact p.elim
  | _ => exact p.elim
noncomputable def ordX : D → Res D
  | .str x => guard (x.length = 1) (.ok (.int (x.cps.getD 0 0 : Nat)))
  | _ => .bad
noncomputable def fmtD : D → Res D
  | .str y => guard (y.length ≤ sizeLine) (.ok (.str y))
  | .int i => guard (i.natAbs.log2 < 1920) (.ok (.str (toString i)))
  | _ => .bad
def dJnil : Str → Rho → Res D := fun acc _ => .ok (.str acc)
noncomputable def dJcons (f : Rho → Res D) (g : Str → Rho → Res D) : Str → Rho → Res D := fun acc r => (f r).bind fun d => (asS d).bind fun y => guard ((acc ++ y).length ≤ sizeLine) (g (acc ++ y) r)
def dJoin (g : Str → Rho → Res D) : Rho → Res D := g Str.empty
noncomputable def truB : D → Res Bool
  | .non => .ok false
  | .bl b => .ok b
  | .int i => .ok (i != 0)
  | .str y => guard (y.length ≤ sizeLine) (.ok ((y.length : Int) != 0))
  | .lst ds => .ok (!ds.isEmpty)
  | .fz ds => .ok (!ds.isEmpty)
  | .tup ds => .ok (!ds.isEmpty)
  | _ => .bad
noncomputable def dTru (f : Rho → Res D) : Rho → Res Bool := fun r => (f r).bind truB
theorem RpA.empty {K : PySem.W.Frag} {cm : CM} {S : Hp} {vs : List V} {ds : List D} (h : RpA K cm S vs ds) : (!ds.isEmpty) = !vs.isEmpty := by cases h <;> rfl
def augF (i : Nat) (g : D → D → Res D) (f : Rho → Res D) : Rho → SR := fun r => liftS r (dVar i r) fun x => liftS r (f r) fun y => liftS r (g x y) fun z => .nx (r.set i (some z))
end
end Dx
end S_DxT
section S_DxS
set_option Elab.async false
set_option linter.all false
set_option maxRecDepth 100000
set_option maxHeartbeats 2000000
namespace Dx
open PySem L2
/-- new own lists that stand in each other -/
def mG (c : Cf) : Md V D := fun H S' H' v d => ∃ k M A, d = .st k M ∧ A.Nodup ∧ A.length = M.length ∧ (∃ a, A[k]? = some a ∧ v = .ref a) ∧ (∀ a ∈ A, H a = none ∧ S' a = none) ∧
  ∀ (n : Nat) row, M[n]? = some row → ∃ a xs, A[n]? = some a ∧ H' a = some (.lst xs) ∧ RmA c.K c.cm A S' xs row
instance {c : Cf} : Anti (mG c) := ⟨fun e ⟨k, M, A, h1, h2, h3, h4, h5, h6⟩ => ⟨k, M, A, h1, h2, h3, h4, fun a ha => ⟨e.nn (h5 a ha).1, (h5 a ha).2⟩, h6⟩⟩
section
variable {X : Cx} {c : Cf} {L G G' : List Ow} {σ : St} {S0 H0 S H S' H' : Hp} {r : Rho}
variable {e : Expr} {pos : Pos} {f : Rho → Res D}
def isOwn : D → Bool
  | .own _ => true
  | .st _ _ => true
  | _ => false
theorem RmA.plain {A : List Addr} {xs : List V} {row : List D} (h : RmA c.K c.cm A S xs row) (hp : row.all (fun d => !isOwn d) = true) : RpA c.K c.cm S xs row := by
  obtain ⟨hl, h⟩ := h
  induction row generalizing xs with
  | nil =>
    cases xs with
    | nil => exact .nil
    | cons _ _ => cases hl
  | cons d row ih =>
    cases xs with
    | nil => cases hl
    | cons v xs =>
      rw [List.all_cons, Bool.and_eq_true] at hp
      refine .cons ?_ (ih hp.2 (by simpa using hl) fun i v d hv hd => h (i + 1) v d (by simpa using hv) (by simpa using hd))
      rcases h 0 v d rfl rfl with z | ⟨k, a, rfl, _⟩
      · exact z
      · cases hp.1
theorem RmA.atI {A : List Addr} {xs : List V} {row : List D} {j : Int} {d : D} (h : RmA c.K c.cm A S xs row) (q : L2.atI row j = some d) : ∃ v, L2.atI xs j = some v ∧ RmV c.K c.cm A S v d := by
  unfold L2.atI at q ⊢
  rw [h.1]
  cases hj : ixN row.length j with
  | none => rw [hj] at q; cases q
  | some n =>
    rw [hj] at q
    have q : row[n]? = some d := q
    have hlt : n < xs.length := by rw [h.1]; exact (List.getElem?_eq_some_iff.mp q).1
    exact ⟨xs[n], List.getElem?_eq_getElem hlt, h.2 n _ d (List.getElem?_eq_getElem hlt) q⟩
theorem RmA.set {A : List Addr} {xs : List V} {row : List D} {v : V} {d : D} (h : RmA c.K c.cm A S xs row) (hv : Rp c.K c.cm S v d) (n : Nat) : RmA c.K c.cm A S (xs.set n v) (row.set n d) := by
  refine ⟨by rw [List.length_set, List.length_set]; exact h.1, fun i u e hu he => ?_⟩
  rw [List.getElem?_set] at hu he
  split at hu
  · rename_i hni
    rw [if_pos hni] at he
    split at hu
    · cases hu
      split at he
      · cases he; exact .inl hv
      · cases he
    · cases hu
  · rename_i hni
    rw [if_neg hni] at he
    exact h.2 i u e hu he
end
end Dx
end S_DxS
section S_DxU
set_option Elab.async false
set_option linter.all false
set_option maxRecDepth 100000
set_option maxHeartbeats 2000000
namespace Dx
open PySem L2
def optL (g : D → Option D) : List D → Option (List D)
  | [] => some []
  | d :: ds => match g d, optL g ds with
    | some e, some es => some (e :: es)
    | _, _ => none
def derefD : Nat → List (List D) → D → Option D
  | _, _, .st _ _ => none
  | 0, _, .own _ => none
  | n + 1, M, .own k => match M[k]? with
    | some row => match optL (derefD n M) row with
      | some ds => some (.lst ds)
      | none => none
    | none => none
  | _, _, d => some d
section
variable {X : Cx} {c : Cf} {L G G' : List Ow} {σ : St} {S0 H0 S H S' H' : Hp} {r : Rho}
/-- all the own lists of slot i become values; the slots ws, that hold some of them, are given up -/
def pubF (n i : Nat) (ws : List Nat) : Rho → SR := fun r => match r[i]? with
  | some (some (.st k M)) => match derefD n M (.own k) with
    | some d => .nx ((wipeR r ws).set i (some d))
    | none => .bad
  | _ => .bad
end
end Dx
end S_DxU
section S_DxV
set_option Elab.async false
set_option linter.all false
set_option maxRecDepth 100000
set_option maxHeartbeats 2000000
namespace Dx
open PySem L2
/-- each item with its number -/
def numd : Nat → List D → List D
  | _, [] => []
  | n, d :: ds => .tup [.int (n : Int), d] :: numd (n + 1) ds
section
variable {X : Cx} {c : Cf} {G : List Ow} {f : Rho → Res D} {e : Expr} {pos : Pos}
def itemsF (d : D) : Res (List D) := match d with
  | .lst ds => .ok ds
  | .fz ds => .ok ds
  | _ => .bad
def enumL (d : D) : Res (List D) := (itemsF d).bind fun ds => .ok (numd 0 ds)
def enumT (d : D) : Res (List D) := (itemsT d).bind fun ds => .ok (numd 0 ds)
end
end Dx
end S_DxV
section S_DxW
set_option Elab.async false
set_option linter.all false
set_option maxRecDepth 100000
set_option maxHeartbeats 2000000
namespace Dx
open PySem L2 PyProof.Rows
end Dx
end S_DxW
section S_DxX
set_option Elab.async false
set_option linter.all false
set_option maxRecDepth 100000
set_option maxHeartbeats 2000000
namespace Dx
open PySem L2
section
variable {X : Cx} {c : Cf} {L G G' : List Ow} {f f1 f2 : Rho → Res D} {a b e : Expr} {pos : Pos} {tg : Expr}
/-- the numbers from lo down, n of them -/
def rngDn (lo : Int) (n : Nat) : List D := (List.range n).map fun (i : Nat) => D.int (lo - (i : Int))
noncomputable def rng3 : List D → Res (List D)
  | [.int a, .int b, .int (-1)] => guard (-4611686018427387904 ≤ a ∧ a < 4611686018427387904 ∧ -4611686018427387904 ≤ b ∧ b < 4611686018427387904) (.ok (rngDn a (a - b).toNat))
  | _ => .bad
theorem gives_dn {H0 S : Hp} {lo : Int} {n : Nat} : Gives c H0 S (Itc lo (-1) n) (rngDn lo n) := by
  have hl : (rngDn lo n).length = n := by unfold rngDn; simp
  refine ⟨_, _, by rw [hl]; exact walk_rangeC, fun _ _ _ _ _ => trivial, fun i S1 H1 x H2 hi e1 e2 y => ?_⟩
  obtain ⟨rfl, rfl⟩ := y
  rw [hl] at hi
  refine ⟨S1, .int (lo - (i : Int)), Fwd.refl e2, by unfold rngDn; simp [hi], ?_⟩
  have : lo + (i : Int) * (-1) = lo - (i : Int) := by omega
  show Rp c.K c.cm S1 (V.int (lo + (i : Int) * (-1))) _
  rw [this]
  exact .int _
theorem di_rng3 {p : Pos} {c' : Expr} {fs : Rho → Res (List D)} (hm : X.mg "range" = none) (hg : Gl X "range") (ha : PA X [a, b, c'] (tAs c G fs)) (hs : starEach [a, b, c'] X.env = (false, eval a X.env) :: starEach [b, c'] X.env := by rfl) (hpl : (backTo pos (starEach [b, c'] X.env)).any (·.1) = false := by rfl) :
    PI X tg (.Call (.Name "range" p) [a, b, c'] [] pos) (iD c G (dIts rng3 fs)) :=
  pi_imp (pi_range3 hg hm ha hs hpl) fun σ H R ⟨S0, H0, S, r, ok, p⟩ => rd_seq ok p fun ds vs S1 H1 w1 o1 m1 p1 => by
    unfold rng3 at p1
    split at p1
    · obtain ⟨hl, p1⟩ := p1.gd
      match vs, m1 with
      | _, .cons h (.cons h' (.cons h'' .nil)) =>
        cases h; cases h'; cases h''
        obtain ⟨h1, h2, h3, h4⟩ := hl
        exact ⟨_, _, _, _, rfl, RgC.neg (by omega) (by omega) (by omega) (by omega), p1.go o1.ex _ gives_dn⟩
    · exact p1.elim
/-- sum of a list of ints -/
def allInt : List D → Option (List Int)
  | [] => some []
  | .int i :: ds => match allInt ds with
    | some is => some (i :: is)
    | none => none
  | _ => none
def sumD : D → Res D
  | .lst ds => match allInt ds with
    | some is => .ok (.int is.sum)
    | none => .bad
  | _ => .bad
def popF (i : Nat) (t : D → Rho → Res Rho) : Rho → SR := fun r => liftS r (ownL i r) fun ds => match ds[ds.length - 1]? with
  | some d => match t d (r.set i (some (.lst ds.dropLast))) with
    | .ok r' => .nx r'
    | _ => .bad
  | none => .bad
theorem RpA.dropLast {S : Hp} {vs : List V} {ds : List D} (h : RpA c.K c.cm S vs ds) : RpA c.K c.cm S vs.dropLast ds.dropLast := by
  rw [List.dropLast_eq_take, List.dropLast_eq_take, h.length]
  exact h.take _
theorem ds_pop (i : Nat) {x : Str} {pn apos cpos : Pos} {ks : List Nat} {t : D → Rho → Res Rho} (hg : Gok c G) (k : kd G i = .o) (ho : PE X (.Name x pn) (tVar i)) (ht : PG X tg (gD c G G' ks t))
    (hbase : attributeBase (.Name x pn) "pop" X.env (eval (.Name x pn) X.env) = eval (.Name x pn) X.env := by rfl) (hline : (apos.endLine == cpos.line) = true := by rfl)
    (hs : swapsWithSole [tg] (.Call (.Attribute (.Name x pn) "pop" apos) [] [] cpos) pos.line X.env = pure false := by rfl) (hw : swappedStores [tg] (.Call (.Attribute (.Name x pn) "pop" apos) [] [] cpos) X.env = pure none := by rfl)
    (h1 : (assignEach [tg] X.env).map (·.2) = [assign tg X.env] := by rfl) :
    PS X (.Assign [tg] (.Call (.Attribute (.Name x pn) "pop" apos) [] [] cpos) pos) (sD c L G G' (popF i t)) :=
  ps_imp (ps_asg (pe_bm0 PySem.F.plainAttrs_list PySem.F.slot_list_pop PySem.F.type_list_pop mt_pop ho hbase hline) ht hs hw h1) fun E σ H ⟨S0, H0, S, r, ok, p⟩ => by
    obtain ⟨q, xs, ds, hd, z1, z2, z3, p1⟩ := of_ownL ok k p
    refine ⟨.ref q, z1, .inl ⟨rfl, xs, .inl (.inl z2)⟩, ?_⟩
    split at p1
    · rename_i d hlast
      obtain ⟨y, hy, ry⟩ := z3.get (i := ds.length - 1) hlast
      rw [← z3.length] at hy
      refine ⟨q, xs, y, rfl, rfl, z2, hy, ?_⟩
      split at p1
      · rename_i r' hr'
        have e1 := ok.mut k hd z1 (.lst z3.dropLast)
        refine ⟨S0, H0, S, _, d, e1, ry, ?_⟩
        rw [hr']
        exact fun σ' _ e2 => p1 σ' S _ e2
      · exact p1.elim
    · exact p1.elim
end
end Dx
end S_DxX
section S_DxY
set_option Elab.async false
set_option linter.all false
set_option maxRecDepth 100000
set_option maxHeartbeats 2000000
namespace Dx
open PySem L2
section
variable {X : Cx} {CX : CXT} {k : Nat} {f C : Addr} {fd : FuncData} {ps : List Str} {sp : Sp} {E : St → XK} {x m : Str} {p pos apos : Pos} {e o : Expr} {es : List Expr} {ta : TE} {t : TA}
def tMethSD (C : Addr) (m : Str) (sp : Sp) (E : St → XK) (ta : TE) (t : TA) : TE := fun σ H Q => ta σ H fun x H1 => ∃ a dx fs, x = .ref a ∧ H1 a = some (.ins C dx fs) ∧ fs.lookup m = none ∧
  t σ H1 fun vs H2 => sp (x :: vs) H2 Q (E σ)
theorem pe_methSD {pl : Sem Bool} (he : PE X o ta) (c : Cls X.K C) (hm : Meth X.K C m f) (F : FnOk X.prog X.w X.K X.mg X.base CX k f fd ps sp) (hr : Room k X.A) (hb : L2.Binds X.K fd ps []) (hx : ∀ σ, PassesAt CX X σ (E σ)) (ha : PA X (e :: es) t)
    (hst : starEach (e :: es) X.env = (false, eval e X.env) :: starEach es X.env := by rfl) (hpl : (backTo pos (starEach es X.env)).any (·.1) = false := by rfl)
    (ht : eval (.Call (.Attribute o m apos) (e :: es) [] pos) X.env = (do
      let ov ← eval o X.env
      standAt apos.atName
      let (f, first) ← holding [ov] (getMethod ov m pl)
      callWith pos f first (backTo pos (starEach (e :: es) X.env)) (backToKw pos (keywordEach [] X.env))) := by rfl) :
    PE X (.Call (.Attribute o m apos) (e :: es) [] pos) (tMethSD C m sp E ta t) := by
  refine ⟨fun pins s σ H Q I h => ?_⟩
  refine PySem.W.methodCall_KW (pl := pl) (thn (he.run pins s σ H _ I h) fun u s1 ⟨x, H1, I1, rx, a, dx, fs, ex, ea, l, q⟩ => ?_) ht
  subst ex
  obtain rfl : u = Value.ref a := rx
  refine getmeth_ok I1 ea c hm l ?_
  refine PySem.W.callWith_K (first := [.ref a]) (h₀ := X.base) I.ok.mod.kin hm.kp (thn (ha.run pos pins s1 σ H1 _ I1 q) fun us s2 ⟨vs, H2, I2, r, q2⟩ => ⟨I2.kIn, ?_⟩) hst hpl
  exact run_fnSD (dvs := []) (us := .ref a :: us) (vs := .ref a :: vs) F hr hb .nil (hx σ) I2 (.cons rfl r) (by rw [List.append_nil]; exact q2)
def tMakeSD (C : Addr) (sp : Sp) (dvs : List V) (E : St → XK) (t : TA) : TE := fun σ H Q => t σ H fun vs H1 => ∀ x dx, H1 x = none → H1 dx = none → dx ≠ x →
  sp (.ref x :: (vs ++ dvs)) (upd (upd H1 dx (.own x)) x (.ins C dx [])) (fun v H2 => v = .non ∧ Q (.ref x) H2) (E σ)
variable {dvs : List V} {ds : List Value}
theorem run_makeSD {pins : List (Addr × Obj)} {σ : St} {H : Hp} {s : Shared} {Q : VK} {us : List Value} {vs : List V} (M : Mk X.K C f) (F : FnOk X.prog X.w X.K X.mg X.base CX k f fd ps sp) (hr : Room (k + 1) X.A) (hb : L2.Binds X.K fd ps ds) (hd : Vals dvs ds)
    (hx : PassesAt CX X σ (E σ)) (I : Inv X pins σ H s) (r : Vals vs us)
    (h : ∀ x dx, H x = none → H dx = none → dx ≠ x → sp (.ref x :: (vs ++ dvs)) (upd (upd H dx (.own x)) x (.ins C dx [])) (fun v H2 => v = .non ∧ Q (.ref x) H2) (E σ)) :
    wpAny (model X.prog X.w) X.A (call (.ref C) us) (EP X pins σ Q) X.xe s := by
  have hq := h (s.heap.objs.size + 1) s.heap.objs.size (I.hok.fresh (Nat.le_succ _)) (I.hok.fresh (Nat.le_refl _)) (Nat.ne_of_lt (Nat.lt_succ_self _))
  have I2 := Inv.made (C := C) I
  have r2 : Vals (V.ref (s.heap.objs.size + 1) :: (vs ++ dvs)) (Value.ref (s.heap.objs.size + 1) :: (us ++ ds)) := .cons rfl (r.append hd)
  have hl : (Value.ref (s.heap.objs.size + 1) :: us ++ ds).length = ps.length := by
    have e := r2.length
    rw [F.len _ _ _ _ hq] at e
    exact e.symm
  refine wpAny_call (make_map (f := f) I.kIn M.makes M.init (beq_iff_eq.mp M.fn) (codeAny_mono (F.run _ X.stack _ _ ⟨Value.ref (s.heap.objs.size + 1) :: us, []⟩ (Value.ref (s.heap.objs.size + 1) :: (us ++ ds)) _ _ (E σ) (hr.make C us [])
    (I2.env0.make C us []) (hb _ (Value.ref (s.heap.objs.size + 1) :: us) I2.kIn hl) r2 hq) fun r s' hq' => ?_))
  cases r with
  | error e => exact hx pins _ _ e s' I2 hq'
  | ok fl =>
    cases fl with
    | ret u =>
      obtain ⟨v, H', I3, rv, ev, q3⟩ := I2.after hq'
      subst ev
      exact ⟨rv, ⟨V.ref (s.heap.objs.size + 1), H', I3, rfl, q3⟩⟩
    | next => exact False.elim hq'
    | brk => exact False.elim hq'
    | cont => exact False.elim hq'
theorem pe_makeSD (M : Mk X.K C f) (F : FnOk X.prog X.w X.K X.mg X.base CX k f fd ps sp) (hr : Room (k + 1) X.A) (hg : Gl X x) (hm : X.mg x = some (.ref C)) (hb : L2.Binds X.K fd ps ds) (hd : Vals dvs ds) (hx : ∀ σ, PassesAt CX X σ (E σ))
    (ha : PA X (e :: es) t) (hdb : (x == ("__debug__" : Str)) = false := by decide) (he : starEach (e :: es) X.env = (false, eval e X.env) :: starEach es X.env := by rfl) (hpl : (backTo pos (starEach es X.env)).any (·.1) = false := by rfl) :
    PE X (.Call (.Name x p) (e :: es) [] pos) (tMakeSD C sp dvs E t) := by
  refine ⟨fun pins s σ H Q I h => ?_⟩
  refine wpAny_Call_Name_kw (ld_glob I hg hm ?_ hdb)
  refine PySem.W.callWith_K (h₀ := X.base) I.ok.mod.kin M.kp (thn (ha.run pos pins s σ H _ I h) fun us s1 ⟨vs, H1, I1, r, q⟩ => ⟨I1.kIn, ?_⟩) he hpl
  exact run_makeSD M F hr hb hd (hx σ) I1 r q
end
section
variable {X : Cx} {c : Cf} {L G G' : List Ow} {f f1 : Rho → Res D} {e o : Expr} {es : List Expr} {pos apos p : Pos} {fs : Rho → Res (List D)}
/-- of an object of the class n, its field fl -/
def fldD (n fl : Str) : D → Res D
  | .obj c ns vs => if c = n then (match lookF ns vs fl with
    | some d => .ok d
    | none => .bad) else .bad
  | _ => .bad
theorem de_fld {n fl : Str} {C : Addr} (hcn : c.cm n = some C) (cl : Cls X.K C) (na : NoAttr X.K C fl) (he : PE X e (tR c G f)) (hb : attributeBase e fl X.env (eval e X.env) = eval e X.env := by rfl) :
    PE X (.Attribute e fl pos) (tV c G (dUn (fldD n fl) f)) := pe_imp (pe_fld he hb) fun σ H Q ⟨S0, H0, S, r, ok, p⟩ => rd_seq ok p fun d v S1 H1 w1 o1 m1 p1 => by
  cases d with
  | obj c' ns vs =>
    unfold fldD at p1
    dsimp only at p1
    split at p1
    · rename_i hc
      subst hc
      split at p1
      · rename_i d' hd
        obtain ⟨q, C', dx, fs, rfl, h1, h2, rfl, h4⟩ := RpB.obj m1 o1.ex
        rw [hcn] at h1; cases h1
        obtain ⟨v', hv, hr⟩ := look_rp h4 hd
        exact ⟨q, C, dx, fs, v', rfl, h2, cl, na, hv, p1.go o1.ex _ hr⟩
      · exact p1.elim
    · exact p1.elim
  | _ => exact p1.elim
/-- the own object in slot i gets a field -/
def putN (fl : Str) (d : D) : List Str → List D → List Str × List D
  | n :: ns, v :: vs => if n = fl then (n :: ns, d :: vs) else let z := putN fl d ns vs; (n :: z.1, v :: z.2)
  | ns, vs => (ns ++ [fl], vs ++ [d])
theorem putN_rp {K : PySem.W.Frag} {cm : CM} {S : Hp} {fl : Str} {d : D} {v : V} (hv : Rp K cm S v d) : ∀ {fs : List (Str × V)} {vs : List D}, RpA K cm S (fs.map (·.2)) vs →
    (putN fl d (fs.map (·.1)) vs).1 = (putF fl v fs).map (·.1) ∧ RpA K cm S ((putF fl v fs).map (·.2)) (putN fl d (fs.map (·.1)) vs).2
  | [], vs, h => by
    cases h
    refine ⟨rfl, ?_⟩
    show RpA K cm S [v] [d]
    exact .one hv
  | (n, u) :: fs, _, h => by
    cases h with | @cons _ _ d' ds' h1 h2 =>
    obtain ⟨z1, z2⟩ := putN_rp hv h2
    by_cases hn : n = fl
    · subst hn
      have e1 : putF n v ((n, u) :: fs) = (n, v) :: fs := by unfold putF; simp
      have e2 : putN n d (((n, u) :: fs).map (·.1)) (d' :: ds') = (n :: fs.map (·.1), d :: ds') := by
        show putN n d (n :: fs.map (·.1)) (d' :: ds') = _
        unfold putN; simp
      rw [e1, e2]
      exact ⟨rfl, .cons hv h2⟩
    · have e1 : putF fl v ((n, u) :: fs) = (n, u) :: putF fl v fs := by
        conv => lhs; unfold putF
        simp [hn, Ne.symm hn]
      have e2 : putN fl d (((n, u) :: fs).map (·.1)) (d' :: ds') = (n :: (putN fl d (fs.map (·.1)) ds').1, d' :: (putN fl d (fs.map (·.1)) ds').2) := by
        show putN fl d (n :: fs.map (·.1)) (d' :: ds') = _
        conv => lhs; unfold putN
        simp [hn]
      rw [e1, e2]
      exact ⟨by simp [z1], .cons h1 z2⟩
def fstF (i : Nat) (n fl : Str) (f : Rho → Res D) : Rho → SR := fun r => liftS r (f r) fun d => match r[i]? with
  | some (some (.obj c ns vs)) => if c = n ∧ ns.length < 1000 then .nx (r.set i (some (.obj c (putN fl d ns vs).1 (putN fl d ns vs).2))) else .bad
  | _ => .bad
theorem ds_fst (i : Nat) {n fl x : Str} {C : Addr} {pn pos' : Pos} (hg : Gok c G) (hcn : c.cm n = some C) (cl : Cls X.K C) (na : NoAttr X.K C fl) (k : isO (kd G i)) (ho : PE X (.Name x pn) (tVar i)) (he : PE X e (tV c G f))
    (hs : swapsWith e (some (.Attribute (.Name x pn) fl pos')) pos.line X.env = pure false := by rfl) : PS X (.Assign [.Attribute (.Name x pn) fl pos'] e pos) (sD c L G G (fstF i n fl f)) :=
  ps_imp (ps_fld ho he hs) fun E σ H ⟨S0, H0, S, r, ok, p⟩ => st_seq hg ok p fun d v S1 H1 w1 o1 m1 p1 => by
    split at p1
    · rename_i c' ns vs hr
      split at p1
      · rename_i hc
        obtain ⟨rfl, hl⟩ := hc
        obtain ⟨q, ho', s1, s2, s3, s4, s5⟩ := o1.ownI k hr
        cases s5 with | @obj C' dx _ fs _ _ h1 h2 h3 =>
        rw [hcn] at h1; cases h1
        subst h2
        obtain ⟨z1, z2⟩ := putN_rp (fl := fl) m1 h3
        refine ⟨.ref q, s1, q, C, dx, fs, rfl, s2, cl, na, by simpa using hl, p1 σ S1 _ ?_⟩
        exact o1.mutI k hr s1 (.obj hcn z1 z2)
      · exact p1.elim
    · exact p1.elim
variable {k : Nat} {fa : Addr} {fd : FuncData} {ps : List Str} {ms : List Bool} {rm : Bool} {F : List D → Res D}
def isObj (n m : Str) : D → Res Unit
  | .obj c ns _ => if c = n ∧ m ∉ ns then .ok () else .bad
  | _ => .bad
def dMeth (n m : Str) (F : List D → Res D) (f1 : Rho → Res D) (fs : Rho → Res (List D)) : Rho → Res D := fun r => (f1 r).bind fun x => (isObj n m x).bind fun _ => (fs r).bind fun ds => F (x :: ds)
theorem lookup_none {fs : List (Str × V)} {m : Str} (h : m ∉ fs.map (·.1)) : fs.lookup m = none := by
  induction fs with
  | nil => rfl
  | cons a fs ih =>
    obtain ⟨n, v⟩ := a
    simp only [List.map_cons, List.mem_cons, not_or] at h
    rw [List.lookup_cons]
    have : (m == n) = false := by simpa using h.1
    rw [this]
    exact ih h.2
theorem of_isObj {σ : St} {S H : Hp} {n m : Str} {d : D} {v : V} {g : Unit → Res D} {kk : D → Hp → Hp → Prop} (ex : Ex S H) (hv : RpB c.K c.cm S H v d) (p : PostG c σ S H ((isObj n m d).bind g) kk) :
    ∃ a C dx fs, v = .ref a ∧ c.cm n = some C ∧ H a = some (.ins C dx fs) ∧ fs.lookup m = none ∧ PostG c σ S H (g ()) kk := by
  cases d with
  | obj c' ns vs =>
    unfold isObj at p
    dsimp only at p
    split at p
    · rename_i hc
      obtain ⟨rfl, hm⟩ := hc
      obtain ⟨q, C', dx, fs, rfl, h1, h2, rfl, h4⟩ := RpB.obj hv ex
      exact ⟨q, C', dx, fs, rfl, h1, h2, lookup_none hm, p⟩
    · exact p.elim
  | _ => exact p.elim
theorem de_meth {n m : Str} {C : Addr} {pl : Sem Bool} (hcn : c.cm n = some C) (cl : Cls X.K C) (hm : Meth X.K C m fa) (F1 : FnOk X.prog X.w X.K X.mg X.base (L2.CX X.prog X.w) k fa fd ps (spD c.K c.cm (true :: ms) rm F)) (tk : Takes X c.W) (hr : Room k X.A) (hb : L2.Binds X.K fd ps [])
    (he : PE X o (tR c G f1)) (ha : PA X (e :: es) (tM c G ms fs))
    (hst : starEach (e :: es) X.env = (false, eval e X.env) :: starEach es X.env := by rfl) (hpl : (backTo pos (starEach es X.env)).any (·.1) = false := by rfl)
    (ht : eval (.Call (.Attribute o m apos) (e :: es) [] pos) X.env = (do
      let ov ← eval o X.env
      standAt apos.atName
      let (f, first) ← holding [ov] (getMethod ov m pl)
      callWith pos f first (backTo pos (starEach (e :: es) X.env)) (backToKw pos (keywordEach [] X.env))) := by rfl) :
    PE X (.Call (.Attribute o m apos) (e :: es) [] pos) (rd c G (dMeth n m F f1 fs) (mR c rm)) :=
  pe_imp (pe_methSD (pl := pl) (E := fun σ cls d H => c.W cls d σ H) he cl hm F1 hr hb (fun σ => passAt tk σ) ha hst hpl ht) fun σ H Q ⟨S0, H0, S, r, ok, q⟩ => rd_seq ok q fun x v S1 H1 w1 o1 m1 p1 => by
    obtain ⟨a, C', dx, fs', rfl, z1, z2, z3, p2⟩ := of_isObj o1.ex m1 p1
    rw [hcn] at z1; cases z1
    exact ⟨a, dx, fs', rfl, z2, z3, rd_seq o1 p2 fun ds vs S2 H2 w2 o2 m2 p3 => call_rd (ds := x :: ds) (fun _ _ _ h => h) o2.ex ⟨RpB.mono m1 w2.s w2.h, m2⟩ (p3.anti (w1.h.trans w2.h))⟩
/-- what an __init__ promises: from its arguments' data to the new object's data -/
def spI (K : PySem.W.Frag) (cm : CM) (C : Addr) (ms : List Bool) (F : List D → Res D) : Sp := fun vs H Q E => ∃ x dx H1 S us ds, vs = .ref x :: us ∧ H1 x = none ∧ H1 dx = none ∧ dx ≠ x ∧ H = upd (upd H1 dx (.own x)) x (.ins C dx []) ∧ Ex S H1 ∧
  RpM ⟨K, cm, fun _ _ _ _ => False, none, true⟩ S H1 ms us ds ∧
  PostG ⟨K, cm, fun cls d _ H => E cls d H, none, true⟩ [] S H1 (F ds) fun a S' H' => (∃ ho, S' x = none ∧ H' x = some ho ∧ RpO K cm S' ho a) → Q .non H'
theorem make_rd {E : XK} {σ : St} {S H : Hp} {vs : List V} {ds : List D} {Q : VK} {C x dx : Addr} (hE : ∀ cls d H, c.W cls d σ H → E cls d H) (ex : Ex S H) (m : RpM c S H ms vs ds) (hx : H x = none) (hdx : H dx = none) (hne : dx ≠ x)
    (q : PostG c σ S H (F ds) fun a S' H' => ∀ b, mO c H S' H' b a → Q b H') : spI c.K c.cm C ms F (.ref x :: vs) (upd (upd H dx (.own x)) x (.ins C dx [])) (fun v H2 => v = .non ∧ Q (.ref x) H2) E := by
  refine ⟨x, dx, H, S, vs, ds, rfl, hx, hdx, hne, rfl, ex, RpM.cf (c := c) (c' := ⟨c.K, c.cm, fun _ _ _ _ => False, none, true⟩) rfl rfl m, ?_⟩
  cases hF : F ds with
  | ok a =>
    rw [hF] at q
    intro S' H' w ⟨ho, h1, h2, h3⟩
    exact ⟨rfl, q S' H' w _ ⟨x, ho, rfl, hx, h1, h2, h3⟩⟩
  | err n ns vs => rw [hF] at q; exact fun C dd S' H' fs h1 w h2 h3 h4 => hE _ _ _ (q C dd S' H' fs h1 w h2 h3 h4)
  | bad => rw [hF] at q; exact q.elim
theorem de_make {x : Str} {C : Addr} (M : Mk X.K C fa) (F1 : FnOk X.prog X.w X.K X.mg X.base (L2.CX X.prog X.w) k fa fd ps (spI c.K c.cm C ms F)) (tk : Takes X c.W) (hr : Room (k + 1) X.A) (hg : Gl X x) (hm : X.mg x = some (.ref C)) (hb : L2.Binds X.K fd ps [])
    (ha : PA X (e :: es) (tM c G ms fs)) (hdb : (x == ("__debug__" : Str)) = false := by decide) (he : starEach (e :: es) X.env = (false, eval e X.env) :: starEach es X.env := by rfl) (hpl : (backTo pos (starEach es X.env)).any (·.1) = false := by rfl) :
    PE X (.Call (.Name x p) (e :: es) [] pos) (tO c G (dCall F fs)) :=
  pe_imp (pe_makeSD (dvs := []) (E := fun σ cls d H => c.W cls d σ H) M F1 hr hg hm hb .nil (fun σ => passAt tk σ) ha hdb he hpl) fun σ H Q ⟨S0, H0, S, r, ok, q⟩ => rd_seq ok q fun ds vs S1 H1 w1 o1 m1 p1 => fun x dx hx hdx hne => by
    rw [List.append_nil]
    exact make_rd (fun _ _ _ h => h) o1.ex m1 hx hdx hne (p1.anti w1.h)
end
def startI (n : Nat) (cls : Str) (ds : List D) : Rho := some (.obj cls [] []) :: ds.map some ++ List.replicate (n - (ds.length + 1)) none
def GI (x : Addr) (ms : List Bool) (n : Nat) : List Ow := .i x :: ms.map (fun m => if m then .b else .v) ++ List.replicate (n - (ms.length + 1)) .v
def runI (n : Nat) (cls : Str) (Fb : Rho → SR) (ds : List D) : Res D := match Fb (startI n cls ds) with
  | .nx r => (match r[0]? with
    | some (some d) => .ok d
    | _ => .bad)
  | .er _ n ns vs => .err n ns vs
  | _ => .bad
theorem kd_GI_succ {x : Addr} {ms : List Bool} {n i : Nat} : kd (GI x ms n) (i + 1) = kd (G0 ms (n - 1)) i := by
  unfold kd GI G0
  rw [List.getD_eq_getElem?_getD, List.getD_eq_getElem?_getD]
  simp [Nat.sub_sub, Nat.add_comm]
theorem startI_succ {n i : Nat} {cls : Str} {ds : List D} : (startI n cls ds)[i + 1]? = (startR (n - 1) ds)[i]? := by
  unfold startI startR
  simp [Nat.sub_sub, Nat.add_comm]
section
variable {P : Program} {w : World} {K : PySem.W.Frag} {mg : Str → Option Value} {base : Heap} {cm : CM}
theorem env_startI {c : Cf} {N : List Str} {S H1 : Hp} {us : List V} {ds : List D} {ms : List Bool} {x dx C : Addr} {n : Str} (hcn : c.cm n = some C) (ex : Ex S H1) (m : RpM c S H1 ms us ds) (hn : ms.length + 1 ≤ N.length) (hx : H1 x = none) (hdx : H1 dx = none) (hne : dx ≠ x) :
    EnvOk c S H1 (GI x ms N.length) S (upd (upd H1 dx (.own x)) x (.ins C dx [])) (L2.start N (.ref x :: us)) (startI N.length n ds) := by
  have hl := m.len
  have hx1 : (upd H1 dx (.own x)) x = none := by rw [upd_ne (Ne.symm hne)]; exact hx
  have e1 : Ex H1 (upd (upd H1 dx (.own x)) x (.ins C dx [])) := (Ex.new hdx).trans (Ex.new hx1)
  have fw : Fwd S H1 S (upd (upd H1 dx (.own x)) x (.ins C dx [])) := ⟨Ex.refl, e1, ex.trans e1, fun a o h n => by rw [n] at h; cases h⟩
  refine ⟨fw, by unfold L2.start startI; simp [hl.1, hl.2], fun i d h => ?_, fun i j d e p hi hj ki kj si sj => ?_, ⟨[], .nil fun i d hi => ?_⟩⟩
  · cases i with
    | zero =>
      have h : some (some (D.obj n [] [])) = some (some d) := h
      cases h
      refine ⟨.ref x, by unfold L2.start; simp, ?_⟩
      show SlotOk c H1 S _ (.i x) (.ref x) _
      exact ⟨rfl, x, _, rfl, upd_same, ex.nn hx, hx, .obj hcn rfl .nil⟩
    | succ i =>
      rw [startI_succ] at h
      have hd := startR_some h
      obtain ⟨v, mm, h1, h2, h3⟩ := m.get hd
      refine ⟨v, ?_, ?_⟩
      · unfold L2.start
        have hlt : i < us.length := (List.getElem?_eq_some_iff.mp h1).1
        rw [List.getElem?_append, if_pos (by simpa using hlt)]
        simp [h1]
      · rw [kd_GI_succ, kd_G0_at h2]
        cases mm with
        | true => exact h3
        | false => exact h3
  · cases i with
    | succ i => rw [kd_GI_succ] at ki; exact absurd ki kd_G0
    | zero => cases j with
      | zero => rfl
      | succ j => rw [kd_GI_succ] at kj; exact absurd kj kd_G0
  · cases i with
    | zero => exact ⟨fun _ h => (by cases h), fun h => (by cases h)⟩
    | succ i => rw [kd_GI_succ]; exact kd_G0_sw
/-- THE RULE for an __init__ -/
theorem dokI {x qual : Str} {st : Stmt} {f C : Addr} {fd : FuncData} {N ps : List Str} {k : Nat} {ms : List Bool} {n : Str} {Fb : Rho → SR} (F : Fun K x qual st f fd) (S : FnScope N ps (defScope st)) (hcn : cm n = some C) (hm : ms.length + 1 = ps.length) (hn : ps.length ≤ N.length)
    {G' : Addr → List Ow} (hG : ∀ a, kd (G' a) 0 = .i a)
    (hb : ∀ (cdv : Value) (A : Around) (outer : List Env) (s : Shared) (H : Hp) (E : XK) (a : Addr), Room k (A.deeper (PyProof.Rows.envOfC qual (defScope st) s.heap.objs.size f cdv)) →
      PSs (cxOf (L2.CX P w) P w K mg base N qual (defScope st) f cdv A outer s H E) (defBody st) (sD (cfE K cm false E) [] (GI a ms N.length) (G' a) Fb)) :
    FnOk P w K mg base (L2.CX P w) (k + 1) f fd ps (spI K cm C ms (runI N.length n Fb)) := by
  refine F.okX S (fun vs H Q E h => ?_) (fun cdv A outer s H vs Q E hr h => ?_)
  · obtain ⟨x, dx, H1, S, us, ds, rfl, _, _, _, _, _, m, _⟩ := h
    rw [List.length_cons, m.len.1, hm]
  · obtain ⟨x, dx, H1, S, us, ds, rfl, hx, hdx, hne, rfl, ex, m, q⟩ := h
    refine ⟨_, hb cdv A outer s _ E x hr, S, H1, S, startI N.length n ds, env_startI (c := cfE K cm false E) hcn ex (RpM.cf (c := ⟨K, cm, fun _ _ _ _ => False, none, true⟩) (c' := cfE K cm false E) rfl rfl m) (by omega) hx hdx hne, ?_⟩
    unfold runI at q
    cases hF : Fb (startI N.length n ds) with
    | rt d => rw [hF] at q; exact q.elim
    | nx r =>
      rw [hF] at q
      dsimp only at q
      intro σ' S' H' ok
      split at q
      · rename_i d hd
        obtain ⟨v, h1, h2⟩ := ok.slot 0 d hd
        rw [hG x] at h2
        obtain ⟨rfl, p, ho, e1, e2, e3, e4, e5⟩ := h2
        cases e1
        exact q S' H' ok.fwd ⟨ho, e3, e2, e5⟩
      · exact q.elim
    | er r n ns vs =>
      rw [hF] at q
      exact fun C dd σ' S' H' fs h1 fw _ h2 h3 h4 => q C dd S' H' fs h1 fw h2 h3 h4
    | bk r => rw [hF] at q; exact q.elim
    | ct r => rw [hF] at q; exact q.elim
    | bad => rw [hF] at q; exact q.elim
end
end Dx
end S_DxY
section S_DxZ
set_option Elab.async false
set_option linter.all false
set_option maxRecDepth 100000
set_option maxHeartbeats 2000000
namespace Dx
open PySem L2
section
variable {X : Cx} {c : Cf} {L G G' : List Ow} {f f1 f2 : Rho → Res D} {e e2 : Expr} {pos apos p : Pos} {fs : Rho → Res (List D)}
def enumS (d : D) : Res (List D) := (itemsS d).bind fun ds => .ok (numd 0 ds)
def pairs : List D → List D → List D
  | a :: as, b :: bs => .tup [a, b] :: pairs as bs
  | _, _ => []
theorem pairs_len : ∀ (as bs : List D), (pairs as bs).length = min as.length bs.length
  | [], _ => by simp [pairs]
  | _ :: _, [] => by simp [pairs]
  | a :: as, b :: bs => by simp [pairs, pairs_len as bs, Nat.succ_min_succ]
theorem pairs_get : ∀ (as bs : List D) (i : Nat) (a b : D), as[i]? = some a → bs[i]? = some b → (pairs as bs)[i]? = some (.tup [a, b])
  | [], _, _, _, _, h, _ => by simp at h
  | _ :: _, [], _, _, _, _, h => by simp at h
  | a :: as, b :: bs, 0, x, y, h1, h2 => by simp at h1 h2; subst h1 h2; simp [pairs]
  | a :: as, b :: bs, i + 1, x, y, h1, h2 => by
    rw [pairs, List.getElem?_cons_succ]
    exact pairs_get as bs i x y (by simpa using h1) (by simpa using h2)
def zipS : List D → Res (List D)
  | [.str x, .str y] => .ok (pairs (signs x) (signs y))
  | _ => .bad
def repS (x : Str) (n : Int) : Str := ⟨(List.replicate n.toNat x.cps.toList).flatten.toArray⟩
def rMulS : R2 := fun x y H Q => ∃ i j, x = .str i ∧ y = .int j ∧ j < 2 ^ 60 ∧ -(2 ^ 60) < j ∧ i.length * j.toNat ≤ sizeLine ∧ Q (.str (repS i j)) H
theorem repS_fold (x : Str) (n : Nat) (a : Array Nat) : (List.replicate n x.cps).foldl (· ++ ·) a = a ++ (List.replicate n x.cps.toList).flatten.toArray := by
  induction n generalizing a with
  | zero => simp
  | succ n ih => rw [List.replicate_succ, List.foldl_cons, ih, List.replicate_succ, List.flatten_cons]; apply Array.toList_inj.mp; simp
theorem op_mulS : OpR X (binaryOp .Mult) rMulS := by
  intro pins s σ H x y v u Q I rx ry h
  obtain ⟨i, j, rfl, rfl, h1, h2, hz, q⟩ := h
  obtain ⟨t, rfl⟩ := rx
  obtain ⟨t', rfl⟩ := ry
  have hz2 : (sizeLine : Nat) < 2 ^ 40 := by decide
  refine P.mul_str (by have a1 : ¬ j < -(2 ^ 63 : Int) := by omega
                       have a2 : ¬ j ≥ 2 ^ 63 := by omega
                       rw [decide_eq_false a1, decide_eq_false a2]; rfl) (fun hn hc => ?_) (fun hn hc => ?_) ?_
  · intro hgt
    have hj : 0 < j := by omega
    have h3 : (i.length : Int) * j ≤ sizeLine := by
      have : ((i.length * j.toNat : Nat) : Int) ≤ (sizeLine : Int) := by exact_mod_cast hz
      rw [Int.natCast_mul, Int.toNat_of_nonneg (by omega)] at this
      exact this
    have h4 : (2 ^ 63 - 1) / j + 1 ≤ (i.length : Int) := hgt
    have h5 : ((2 ^ 63 - 1) / j + 1) * j ≤ (i.length : Int) * j := Int.mul_le_mul_of_nonneg_right h4 (by omega)
    have h6 : (2 ^ 63 - 1) < ((2 ^ 63 - 1) / j + 1) * j := Int.lt_ediv_add_one_mul_self _ hj
    have h7 : ((sizeLine : Nat) : Int) < 2 ^ 40 := by exact_mod_cast hz2
    omega
  · exact decide_eq_false (Nat.not_lt.mpr hz)
  · have e1 : repS i j = ⟨(List.replicate j.toNat i.cps).foldl (· ++ ·) #[]⟩ := by
      unfold repS
      rw [repS_fold]; simp
    by_cases hn : j < 1
    · rw [if_pos hn]
      have : repS i j = Str.empty := by
        unfold repS
        rw [show j.toNat = 0 by omega]
        rfl
      rw [this] at q
      exact ⟨by decide, ⟨.str Str.empty, H, I.tok _, ⟨_, rfl⟩, q⟩⟩
    · rw [if_neg hn]
      by_cases hc : (j == 1 || i.length == 0) = true
      · rw [if_pos hc]
        have : repS i j = i := by
          rw [Bool.or_eq_true] at hc
          rcases hc with hc | hc
          · have : j = 1 := by simpa using hc
            subst this
            unfold repS
            apply Str.ext'
            simp
          · have h0 : i.cps.size = 0 := by have : i.length = 0 := by simpa using hc
                                           exact this
            have h0' : i.cps = #[] := Array.eq_empty_of_size_eq_zero h0
            unfold repS
            apply Str.ext'
            rw [h0']
            simp
        rw [this] at q
        exact ⟨.str i, H, I, ⟨_, rfl⟩, q⟩
      · rw [if_neg hc, ← e1]
        refine ⟨?_, ⟨.str (repS i j), H, I.tok _, ⟨_, rfl⟩, q⟩⟩
        have : (repS i j).length = i.length * j.toNat := by
          show (List.replicate j.toNat i.cps.toList).flatten.toArray.size = _
          rw [List.size_toArray, List.length_flatten, List.map_replicate, List.sum_replicate_nat, Array.length_toList, Nat.mul_comm]; rfl
        rw [this]; exact hz
noncomputable def mulX : D → D → Res D
  | .str a, .int k => guard (k < 2 ^ 60 ∧ -(2 ^ 60) < k ∧ a.length * k.toNat ≤ sizeLine) (.ok (.str (repS a k)))
  | x, y => mulD x y
def rMulY : R2 := fun x y H Q => rMulX x y H Q ∨ rMulS x y H Q
theorem or_mulX : OpR X (binaryOp .Mult) rMulY := or_mul.or op_mulS
theorem os_mulX : OpS c (mV c) rMulY mulX := by
  intro σ S H x y d e Q ex hx hy p
  unfold mulX at p
  split at p
  · cases hx.str; cases hy.int
    obtain ⟨⟨h1, h2, h3⟩, p⟩ := p.gd
    exact .inr ⟨_, _, rfl, rfl, h1, h2, h3, p.here ex (.str _)⟩
  · exact .inl (os_mul σ S H x y _ _ Q ex hx hy p)
variable {cpos : Pos}
end
end Dx
end S_DxZ
section S_DxO
set_option Elab.async false
set_option linter.all false
set_option maxRecDepth 100000
set_option maxHeartbeats 2000000
namespace Dx
open PySem L2 ItX
open PyProof.Rows hiding St
section
variable {X : Cx} {k : Nat} {fa C : Addr} {fd : FuncData} {ps : List Str} {sp : Sp} {pins : List (Addr × Obj)} {σ : St} {H : Hp} {s : Shared} {Q : VK} {us : List Value} {vs : List V}
theorem ins_at {a dx : Addr} {fs : List (Str × V)} (I : Inv X pins σ H s) (h : H a = some (.ins C dx fs)) : ∃ ox od, PySem.W.InstAt s.heap a ox C od ∧ ox.data = .plain := by
  obtain ⟨mA, O, _⟩ := ins_get I.hok h
  obtain ⟨od, J, _⟩ := O.look
  exact ⟨_, _, J, rfl⟩
end
section
variable {X : Cx} {c : Cf} {L G G' : List Ow} {f f1 : Rho → Res D} {e o : Expr} {es : List Expr} {pos apos p : Pos} {fs : Rho → Res (List D)} {n : Str} {C : Addr} {F : List D → Res D} {ms : List Bool} {rm : Bool} {k : Nat} {fa : Addr} {fd : FuncData} {ps : List Str}
/-- an object of the class n -/
def isCls (n : Str) : D → Bool
  | .obj c _ _ => decide (c = n)
  | _ => false
theorem of_isCls {S H : Hp} {v : V} {d : D} (ex : Ex S H) (hcn : c.cm n = some C) (h : isCls n d = true) (m : RpB c.K c.cm S H v d) : ∃ a dx fs, v = .ref a ∧ H a = some (.ins C dx fs) := by
  cases d with
  | obj c' ns vs =>
    have hc : c' = n := of_decide_eq_true h
    subst hc
    obtain ⟨q, C', dx, fs, rfl, h1, h2, _, _⟩ := RpB.obj m ex
    rw [hcn] at h1; cases h1
    exact ⟨q, dx, fs, rfl, h2⟩
  | _ => cases h
def dCallO (n : Str) (F : List D → Res D) (f1 : Rho → Res D) (fs : Rho → Res (List D)) : Rho → Res D := fun r => (f1 r).bind fun x => if isCls n x = true then (fs r).bind fun ds => F (x :: ds) else .bad
def tCallOS (C : Addr) (sp : Sp) (E : St → XK) (tf : TE) (t : TA) : TE := fun σ H Q => tf σ H fun y H1 => ∃ a, y = V.ref a ∧ t σ H1 fun vs H2 => (∃ dx fs, H2 a = some (.ins C dx fs)) ∧ sp (V.ref a :: vs) H2 Q (E σ)
theorem pe_callOS {CX : CXT} {g : Addr} {fe : Expr} {tf : TE} {t : TA} {sp : Sp} {E : St → XK} (hf : PE X fe tf) (cc : StX.CallO X.K C g) (F1 : FnOk X.prog X.w X.K X.mg X.base CX k g fd ps sp) (hr : Room k X.A) (hb : L2.Binds X.K fd ps []) (hx : ∀ σ, PassesAt CX X σ (E σ)) (ha : PA X (e :: es) t)
    (ht : eval (.Call fe (e :: es) [] pos) X.env = (do callWith pos (← eval fe X.env) [] (backTo pos (starEach (e :: es) X.env)) (backToKw pos (keywordEach [] X.env))) := by rfl)
    (he : starEach (e :: es) X.env = (false, eval e X.env) :: starEach es X.env := by rfl) (hpl : (backTo pos (starEach es X.env)).any (·.1) = false := by rfl) : PE X (.Call fe (e :: es) [] pos) (tCallOS C sp E tf t) := by
  refine ⟨fun pins s σ H Q I h => ?_⟩
  refine PyProof.Rows.Call_ (thn (hf.run pins s σ H _ I h) fun u s1 ⟨y, H1, I1, ry, a, ey, q⟩ => ?_) ht
  subst ey
  obtain rfl : u = Value.ref a := ry
  refine StX.callO_with (thn (ha.run pos pins s1 σ H1 _ I1 q) fun us s2 ⟨vs, H2, I2, r, ⟨dx, gs, hi⟩, q2⟩ => ?_) he hpl
  obtain ⟨ox, od, J, hd⟩ := ins_at I2 hi
  refine ⟨⟨C, ox, od, J, hd⟩, ?_⟩
  have r2 : Vals (V.ref a :: vs) (Value.ref a :: us) := .cons rfl r
  have hl : ((Value.ref a :: us) ++ []).length = ps.length := by rw [List.append_nil, ← r2.length]; exact F1.len _ _ _ _ q2
  have hb2 := hb s2 (Value.ref a :: us) I2.kIn hl
  rw [List.append_nil] at hb2
  refine wpAny_call (PySem.W.kco_code I2.kIn J hd cc.at_ cc.fn cc.fi (codeAny_mono (F1.run X.A X.stack s2 H2 ⟨Value.ref a :: us, []⟩ (Value.ref a :: us) (V.ref a :: vs) Q (E σ) hr I2.env0 hb2 r2 q2) fun r s' hq => ?_))
  cases r with
  | error e => exact hx σ pins H2 s2 e s' I2 hq
  | ok fl =>
    cases fl with
    | ret u => exact I2.after hq
    | next => exact False.elim hq
    | brk => exact False.elim hq
    | cont => exact False.elim hq
def dStar (f : Rho → Res D) (fs : Rho → Res (List D)) : Rho → Res (List D) := fun r => (f r).bind fun d => (items d).bind fun xs => (fs r).bind fun ys => .ok (xs ++ ys)
def zipL : List D → Res (List D)
  | [.lst x, .lst y] => .ok (pairs x y)
  | _ => .bad
end
end Dx
end S_DxO
section S_DxP
set_option Elab.async false
set_option linter.all false
set_option maxRecDepth 100000
set_option maxHeartbeats 2000000
namespace Dx
open PySem L2 ItX
open PyProof.Rows hiding St
end Dx
end S_DxP
section S_DxM
set_option Elab.async false
set_option linter.all false
set_option maxRecDepth 100000
namespace Dx
open PySem L2
def Rs {α : Type} (x : Res α) (Q : α → Prop) (E : Str → List Str → List D → Prop) : Prop := match x with
  | .ok a => Q a
  | .err n ns vs => E n ns vs
  | .bad => False
def nE : Str → List Str → List D → Prop := fun _ _ _ => False
def nE' : Rho → Str → List Str → List D → Prop := fun _ _ _ _ => False
def nR : Rho → Prop := fun _ => False
def Ss (o : SR) (N : Rho → Prop) (R : D → Prop) (B C : Rho → Prop) (E : Rho → Str → List Str → List D → Prop) : Prop := match o with
  | .nx r => N r
  | .rt d => R d
  | .bk r => B r
  | .ct r => C r
  | .er r n ns vs => E r n ns vs
  | .bad => False
section
variable {α β : Type} {Q Q' : α → Prop} {E E' : Str → List Str → List D → Prop}
theorem Rs.imp {x : Res α} (h : Rs x Q nE) (k : ∀ a, Q a → Q' a) : Rs x Q' E := by
  cases x with
  | ok a => exact k a h
  | err n ns vs => exact h.elim
  | bad => exact h.elim
theorem Rs.impE {x : Res α} (h : Rs x Q E) (k : ∀ a, Q a → Q' a) (l : ∀ n ns vs, E n ns vs → E' n ns vs) : Rs x Q' E' := by
  cases x with
  | ok a => exact k a h
  | err n ns vs => exact l _ _ _ h
  | bad => exact h.elim
theorem Rs.of {x : Res α} {a : α} (h : x = .ok a) (q : Q a) : Rs x Q E := by rw [h]; exact q
theorem Rs.ofE {x : Res α} {n : Str} {ns : List Str} {vs : List D} (h : x = .err n ns vs) (q : E n ns vs) : Rs x Q E := by rw [h]; exact q
theorem Rs.eq {x : Res α} {a : α} (h : Rs x (fun b => b = a) nE) : x = .ok a := by
  cases x with
  | ok b => exact congrArg _ h
  | err n ns vs => exact h.elim
  | bad => exact h.elim
theorem Rs.get {x : Res α} (h : Rs x Q nE) : ∃ a, x = .ok a ∧ Q a := by
  cases x with
  | ok a => exact ⟨a, rfl, h⟩
  | err n ns vs => exact h.elim
  | bad => exact h.elim
theorem Rs.errEq {x : Res α} {n : Str} {ns : List Str} {vs : List D} (h : Rs x (fun _ => False) fun a b c => a = n ∧ b = ns ∧ c = vs) : x = .err n ns vs := by
  cases x with
  | ok b => exact h.elim
  | err a b c => obtain ⟨rfl, rfl, rfl⟩ := h; rfl
  | bad => exact h.elim
theorem Rs.bind {x : Res β} {k : β → Res α} (h : Rs x (fun b => Rs (k b) Q E) E) : Rs (x.bind k) Q E := by
  cases x with
  | ok a => exact h
  | err n ns vs => exact h
  | bad => exact h
theorem rs_ok {a : α} (q : Q a) : Rs (.ok a) Q E := q
theorem rs_guard {p : Prop} {x : Res α} (h : p) (k : Rs x Q E) : Rs (guard p x) Q E := by rw [guard_pos h]; exact k
end
section
variable {Q : D → Prop} {E : Str → List Str → List D → Prop} {r : Rho} {f f1 f2 f3 : Rho → Res D} {fs : Rho → Res (List D)} {t u : Rho → Res Bool} {d : D} {i : Nat}
theorem rs_var (h : r[i]? = some (some d)) (q : Q d) : Rs (dVar i r) Q E := by unfold dVar; rw [h]; exact q
theorem rs_c (q : Q d) : Rs (dC d r) Q E := q
theorem rs_op {g : D → D → Res D} (h : Rs (f1 r) (fun a => Rs (f2 r) (fun b => Rs (g a b) Q E) E) E) : Rs (dOp g f1 f2 r) Q E := Rs.bind (h.impE (fun a q => Rs.bind q) fun _ _ _ z => z)
theorem rs_str {g : D → D → Res D} (h : Rs (f1 r) (fun a => Rs (asS a) (fun _ => Rs (f2 r) (fun b => Rs (g a b) Q E) E) E) E) : Rs (dStr g f1 f2 r) Q E := Rs.bind (h.impE (fun a q => Rs.bind (q.impE (fun _ q => Rs.bind q) fun _ _ _ z => z)) fun _ _ _ z => z)
theorem rs_asS {z : Str} {Q : Str → Prop} (q : Q z) : Rs (asS (.str z)) Q E := q
theorem rs_un {g : D → Res D} (h : Rs (f r) (fun a => Rs (g a) Q E) E) : Rs (dUn g f r) Q E := Rs.bind h
theorem rs_nil {Q : List D → Prop} (q : Q []) : Rs (dNil r) Q E := q
theorem rs_cons {Q : List D → Prop} (h : Rs (f r) (fun x => Rs (fs r) (fun xs => Q (x :: xs)) E) E) : Rs (dCons f fs r) Q E := Rs.bind (h.impE (fun a q => Rs.bind q) fun _ _ _ z => z)
theorem rs_call {g : List D → Res D} (h : Rs (fs r) (fun ds => Rs (g ds) Q E) E) : Rs (dCall g fs r) Q E := Rs.bind h
theorem rs_tup (h : Rs (fs r) (fun ds => ds.length ≤ sizeLine ∧ Q (.tup ds)) E) : Rs (dTup fs r) Q E := Rs.bind (h.impE (fun ds q => rs_guard q.1 q.2) fun _ _ _ z => z)
theorem rs_lst (h : Rs (fs r) (fun ds => ds.length ≤ sizeLine ∧ Q (.lst ds)) E) : Rs (dLst fs r) Q E := Rs.bind (h.impE (fun ds q => rs_guard q.1 q.2) fun _ _ _ z => z)
theorem rs_T {Q : Bool → Prop} (h : Rs (f r) (fun d => Rs (asB d) Q E) E) : Rs (dT f r) Q E := Rs.bind h
theorem rs_asB {b : Bool} {Q : Bool → Prop} (q : Q b) : Rs (asB (.bl b)) Q E := q
theorem rs_asI {b : Int} {Q : Int → Prop} (q : Q b) : Rs (asI (.int b)) Q E := q
theorem rs_not {Q : Bool → Prop} (h : Rs (t r) (fun b => Q (!b)) E) : Rs (dNot t r) Q E := Rs.bind h
theorem rs_and {Q : Bool → Prop} (h : Rs (t r) (fun a => Rs (u r) (fun b => Q (a && b)) nE) E) : Rs (dAnd t u r) Q E := Rs.bind (h.impE (fun a q => by
  cases a
  · obtain ⟨b, _, q⟩ := q.get
    exact q
  · exact q.impE (fun _ z => z) fun _ _ _ z => z.elim) fun _ _ _ z => z)
theorem rs_or {Q : Bool → Prop} (h : Rs (t r) (fun a => Rs (u r) (fun b => Q (a || b)) nE) E) : Rs (dOr t u r) Q E := Rs.bind (h.impE (fun a q => by
  cases a
  · exact q.impE (fun _ z => z) fun _ _ _ z => z.elim
  · obtain ⟨b, _, q⟩ := q.get
    exact q) fun _ _ _ z => z)
theorem rs_andc {Q : Bool → Prop} (h : Rs (t r) (fun a => (a = true → Rs (u r) Q E) ∧ (a = false → Q false)) E) : Rs (dAnd t u r) Q E := Rs.bind (h.impE (fun a q => by
  cases a
  · exact q.2 rfl
  · exact q.1 rfl) fun _ _ _ z => z)
theorem rs_orc {Q : Bool → Prop} (h : Rs (t r) (fun a => (a = true → Q true) ∧ (a = false → Rs (u r) Q E)) E) : Rs (dOr t u r) Q E := Rs.bind (h.impE (fun a q => by
  cases a
  · exact q.2 rfl
  · exact q.1 rfl) fun _ _ _ z => z)
theorem rs_andV (h : Rs (f1 r) (fun a => Rs (asB a) (fun a => Rs (f2 r) (fun b => Rs (asB b) (fun b => Q (.bl (a && b))) nE) nE) E) E) : Rs (dAndV f1 f2 r) Q E := Rs.bind (h.impE (fun a q => Rs.bind (q.impE (fun a q => by
  obtain ⟨b, e, q⟩ := q.get
  cases b with
  | bl b =>
    cases a
    · exact q
    · exact Rs.of e q
  | _ => exact q.elim) fun _ _ _ z => z)) fun _ _ _ z => z)
theorem rs_orV (h : Rs (f1 r) (fun a => Rs (asB a) (fun a => Rs (f2 r) (fun b => Rs (asB b) (fun b => Q (.bl (a || b))) nE) nE) E) E) : Rs (dOrV f1 f2 r) Q E := Rs.bind (h.impE (fun a q => Rs.bind (q.impE (fun a q => by
  obtain ⟨b, e, q⟩ := q.get
  cases b with
  | bl b =>
    cases a
    · exact Rs.of e q
    · exact q
  | _ => exact q.elim) fun _ _ _ z => z)) fun _ _ _ z => z)
theorem rs_andVc (h : Rs (f1 r) (fun a => Rs (asB a) (fun a => (a = true → Rs (f2 r) Q E) ∧ (a = false → Q (.bl false))) E) E) : Rs (dAndV f1 f2 r) Q E := Rs.bind (h.impE (fun a q => Rs.bind (q.impE (fun a q => by
  cases a
  · exact q.2 rfl
  · exact q.1 rfl) fun _ _ _ z => z)) fun _ _ _ z => z)
theorem rs_orVc (h : Rs (f1 r) (fun a => Rs (asB a) (fun a => (a = true → Q (.bl true)) ∧ (a = false → Rs (f2 r) Q E)) E) E) : Rs (dOrV f1 f2 r) Q E := Rs.bind (h.impE (fun a q => Rs.bind (q.impE (fun a q => by
  cases a
  · exact q.2 rfl
  · exact q.1 rfl) fun _ _ _ z => z)) fun _ _ _ z => z)
theorem rs_notV (h : Rs (f r) (fun a => Rs (asB a) (fun b => Q (.bl (!b))) E) E) : Rs (dNotV f r) Q E := Rs.bind (h.impE (fun a q => Rs.bind q) fun _ _ _ z => z)
theorem rs_ifx {α : Type} {Q : α → Prop} {f g : Rho → Res α} (h : Rs (t r) (fun b => (b = true → Rs (f r) Q E) ∧ (b = false → Rs (g r) Q E)) E) : Rs (dIf t f g r) Q E := Rs.bind (h.impE (fun a q => by
  cases a
  · exact q.2 rfl
  · exact q.1 rfl) fun _ _ _ z => z)
theorem rs_tru {Q : Bool → Prop} (h : Rs (f r) (fun d => Rs (truB d) Q E) E) : Rs (dTru f r) Q E := Rs.bind h
theorem rs_truB {b : Bool} {Q : Bool → Prop} (q : Q b) : Rs (truB (.bl b)) Q E := q
theorem rs_truI {b : Int} {Q : Bool → Prop} (q : Q (b != 0)) : Rs (truB (.int b)) Q E := q
theorem rs_truL {ds : List D} {Q : Bool → Prop} (q : Q (!ds.isEmpty)) : Rs (truB (.lst ds)) Q E := q
theorem rs_truT {ds : List D} {Q : Bool → Prop} (q : Q (!ds.isEmpty)) : Rs (truB (.tup ds)) Q E := q
theorem rs_truN {Q : Bool → Prop} (q : Q false) : Rs (truB .non) Q E := q
theorem rs_chain {g g' : D → D → Res D} (h : Rs (f1 r) (fun x => Rs (f2 r) (fun y => Rs (g x y) (fun z => Rs (asB z) (fun a => Rs (f3 r) (fun w => Rs (g' y w) (fun e => Rs (asB e) (fun b => Q (.bl (a && b))) nE) nE) nE) E) E) E) E) : Rs (dChain g g' f1 f2 f3 r) Q E :=
  Rs.bind (h.impE (fun x q => Rs.bind (q.impE (fun y q => Rs.bind (q.impE (fun z q => Rs.bind (q.impE (fun a q => by
    obtain ⟨w, e1, q⟩ := q.get
    obtain ⟨e, e2, q⟩ := q.get
    cases e with
    | bl b =>
      cases a
      · exact q
      · exact Rs.bind (Rs.of e1 (Rs.of e2 q))
    | _ => exact q.elim) fun _ _ _ z => z)) fun _ _ _ z => z)) fun _ _ _ z => z)) fun _ _ _ z => z)
theorem rs_noP {Q : Option Int → Prop} (q : Q none) : Rs (dNoP r) Q E := q
theorem rs_part {Q : Option Int → Prop} (h : Rs (f r) (fun d => Rs (asI d) (fun i => Q (some i)) E) E) : Rs (dPart f r) Q E := Rs.bind (h.impE (fun a q => Rs.bind q) fun _ _ _ z => z)
theorem rs_sl {g : D → Option Int → Option Int → Res D} {fl fh : Rho → Res (Option Int)} (h : Rs (f r) (fun d => Rs (fl r) (fun l => Rs (fh r) (fun k => Rs (g d l k) Q E) E) E) E) : Rs (dSl g f fl fh r) Q E := Rs.bind (h.impE (fun a q => Rs.bind (q.impE (fun _ q => Rs.bind q) fun _ _ _ z => z)) fun _ _ _ z => z)
theorem rs_it {g : D → Res (List D)} {Q : List D → Prop} (h : Rs (f r) (fun d => Rs (g d) Q E) E) : Rs (dIt g f r) Q E := Rs.bind h
theorem rs_its {g : List D → Res (List D)} {Q : List D → Prop} (h : Rs (fs r) (fun d => Rs (g d) Q E) E) : Rs (dIts g fs r) Q E := Rs.bind h
theorem rs_yes {Q : Bool → Prop} (q : Q true) : Rs (dYes r) Q E := q
theorem rs_meth {n m : Str} {F : List D → Res D} (h : Rs (f r) (fun x => Rs (isObj n m x) (fun _ => Rs (fs r) (fun ds => Rs (F (x :: ds)) Q E) E) E) E) : Rs (dMeth n m F f fs r) Q E := Rs.bind (h.impE (fun a q => Rs.bind (q.impE (fun _ q => Rs.bind q) fun _ _ _ z => z)) fun _ _ _ z => z)
theorem rs_isObj {n m : Str} {ns : List Str} {vs : List D} {Q : Unit → Prop} (h : m ∉ ns) (q : Q ()) : Rs (isObj n m (.obj n ns vs)) Q E := by
  show Rs (if n = n ∧ m ∉ ns then .ok () else .bad) Q E
  rw [if_pos ⟨rfl, h⟩]; exact q
theorem rs_fld {n fl : Str} {ns : List Str} {vs : List D} (h : lookF ns vs fl = some d) (q : Q d) : Rs (fldD n fl (.obj n ns vs)) Q E := by
  show Rs (if n = n then (match lookF ns vs fl with | some d => .ok d | none => .bad) else .bad) Q E
  rw [if_pos rfl, h]; exact q
end
abbrev Sg (l : List Nat) : Str := ⟨l.toArray⟩
theorem ST_len (l : List Nat) : (Sg l).length = l.length := by simp [Sg, Str.length]
theorem ST_app (a b : List Nat) : Sg a ++ Sg b = Sg (a ++ b) := TL.ext_tl (by rw [TL.tl_append])
theorem ST_inj {a b : List Nat} : Sg a = Sg b ↔ a = b := ⟨fun h => congrArg TL.tl h, fun h => by rw [h]⟩
theorem ST_dec (a b : List Nat) : decide (Sg a = Sg b) = decide (a = b) := by
  by_cases h : a = b
  · subst h; simp
  · simp [h, ST_inj]
section
variable {Q : D → Prop} {E : Str → List Str → List D → Prop} {i j : Int} {a b : List Nat} {ds es : List D} {d e : D}
theorem rs_add (q : Q (.int (i + j))) : Rs (addD (.int i) (.int j)) Q E := q
theorem rs_addS (h : a.length + b.length ≤ sizeLine) (q : Q (.str (Sg (a ++ b)))) : Rs (addD (.str (Sg a)) (.str (Sg b))) Q E := rs_guard (by rw [ST_len, ST_len]; exact h) (by rw [ST_app]; exact q)
theorem rs_addT (h : ds.length + es.length ≤ sizeLine) (q : Q (.tup (ds ++ es))) : Rs (addD (.tup ds) (.tup es)) Q E := rs_guard h q
theorem rs_addLL (h : ds.length + es.length ≤ sizeLine) (q : Q (.lst (ds ++ es))) : Rs (addD (.lst ds) (.lst es)) Q E := rs_guard h q
theorem rs_addLO (h : ds.length + es.length ≤ sizeLine) (q : Q (.lst (ds ++ es))) : Rs (addL (.lst ds) (.lst es)) Q E := rs_guard h q
theorem rs_sub (q : Q (.int (i - j))) : Rs (subD (.int i) (.int j)) Q E := q
theorem rs_neg (q : Q (.int (-i))) : Rs (negD (.int i)) Q E := q
theorem rs_mul (h : smallI i ∨ smallI j) (q : Q (.int (i * j))) : Rs (mulX (.int i) (.int j)) Q E := rs_guard h q
theorem rs_mulL (h : 0 ≤ j ∧ j < 2 ^ 60 ∧ ds.length * j.toNat ≤ sizeLine) (q : Q (.lst (List.replicate j.toNat ds).flatten)) : Rs (mulX (.lst ds) (.int j)) Q E := rs_guard h q
theorem rs_fdiv (h : 0 < j ∧ j < 4611686018427387904) (q : Q (.int (i / j))) : Rs (fdivD (.int i) (.int j)) Q E := by
  show Rs (if 0 < j then guard (j < 4611686018427387904) (.ok (.int (i / j))) else _) Q E
  rw [if_pos h.1]; exact rs_guard h.2 q
theorem rs_mod (h : 0 < j) (q : Q (.int (i % j))) : Rs (modD (.int i) (.int j)) Q E := rs_guard h q
theorem rs_eqI (q : Q (.bl (decide (i = j)))) : Rs (eqD (.int i) (.int j)) Q E := q
theorem rs_neI (q : Q (.bl (!decide (i = j)))) : Rs (neD (.int i) (.int j)) Q E := q
theorem rs_eqS (q : Q (.bl (decide (a = b)))) : Rs (eqD (.str (Sg a)) (.str (Sg b))) Q E := by
  show Q (.bl (decide (Sg a = Sg b)))
  rw [ST_dec]; exact q
theorem rs_neS (q : Q (.bl (!decide (a = b)))) : Rs (neD (.str (Sg a)) (.str (Sg b))) Q E := by
  show Q (.bl (!decide (Sg a = Sg b)))
  rw [ST_dec]; exact q
theorem rs_eqB {x y : Bool} (q : Q (.bl (decide (x = y)))) : Rs (eqD (.bl x) (.bl y)) Q E := q
theorem rs_neB {x y : Bool} (q : Q (.bl (!decide (x = y)))) : Rs (neD (.bl x) (.bl y)) Q E := q
theorem rs_lt (q : Q (.bl (decide (i < j)))) : Rs (ltD (.int i) (.int j)) Q E := q
theorem rs_le (q : Q (.bl (decide (i ≤ j)))) : Rs (leD (.int i) (.int j)) Q E := q
theorem rs_gt (q : Q (.bl (decide (j < i)))) : Rs (gtD (.int i) (.int j)) Q E := q
theorem rs_ge (q : Q (.bl (decide (j ≤ i)))) : Rs (geD (.int i) (.int j)) Q E := q
theorem rs_is (q : Q (.bl (isN d))) : Rs (isD false d .non) Q E := q
theorem rs_isn (q : Q (.bl (!isN d))) : Rs (isD true d .non) Q E := q
theorem rs_inS {n : Nat} (q : Q (.bl (decide (n ∈ b)))) : Rs (inD (.str (Sg [n])) (.str (Sg b))) Q E := q
theorem rs_ninS {n : Nat} (q : Q (.bl (!decide (n ∈ b)))) : Rs (ninD (.str (Sg [n])) (.str (Sg b))) Q E := q
theorem rs_lenS (h : a.length ≤ sizeLine) (q : Q (.int a.length)) : Rs (g1 lenD [.str (Sg a)]) Q E := rs_guard (by rw [ST_len]; exact h) (by show Q _; rw [ST_len]; exact q)
theorem rs_lenL (q : Q (.int ds.length)) : Rs (g1 lenD [.lst ds]) Q E := q
theorem rs_lenF (q : Q (.int ds.length)) : Rs (g1 lenD [.fz ds]) Q E := q
theorem rs_lenT (q : Q (.int ds.length)) : Rs (g1 lenD [.tup ds]) Q E := q
theorem rs_int (q : Q (.int i)) : Rs (g1 intD [.int i]) Q E := q
theorem rs_intB {x : Bool} (q : Q (.int (if x then 1 else 0))) : Rs (g1 intD [.bl x]) Q E := q
theorem rs_abs (q : Q (.int (if i < 0 then -i else i))) : Rs (g1 absD [.int i]) Q E := q
theorem rs_listL (q : Q (.lst ds)) : Rs (g1 listD [.lst ds]) Q E := q
theorem rs_listT (q : Q (.lst ds)) : Rs (g1 listD [.tup ds]) Q E := q
theorem rs_tupL (q : Q (.tup ds)) : Rs (g1 tupleD [.lst ds]) Q E := q
theorem rs_tupT (q : Q (.tup ds)) : Rs (g1 tupleD [.tup ds]) Q E := q
theorem rs_ixL (h : atI ds i = some d) (q : Q d) : Rs (ixD (.lst ds) (.int i)) Q E := by
  show Rs (match atI ds i with | some d => Res.ok d | none => Res.bad) Q E
  rw [h]; exact q
theorem rs_ixF (h : atI ds i = some d) (q : Q d) : Rs (ixD (.fz ds) (.int i)) Q E := by
  show Rs (match atI ds i with | some d => Res.ok d | none => Res.bad) Q E
  rw [h]; exact q
theorem rs_ixT (h : atI ds i = some d) (q : Q d) : Rs (ixD (.tup ds) (.int i)) Q E := by
  show Rs (match atI ds i with | some d => Res.ok d | none => Res.bad) Q E
  rw [h]; exact q
theorem rs_ixS {n : Nat} (h : a.length ≤ sizeLine ∧ atI a i = some n) (q : Q (.str (Sg [n]))) : Rs (ixD (.str (Sg a)) (.int i)) Q E := rs_guard (by rw [ST_len]; exact h.1) (by
  show Rs (match atI a i with | some n => Res.ok (D.str ⟨#[n]⟩) | none => Res.bad) Q E
  rw [h.2]; exact q)
theorem rs_slL {lo hi : Option Int} (q : Q (.lst (cutL ds lo hi))) : Rs (slD (.lst ds) lo hi) Q E := q
theorem rs_slO {lo hi : Option Int} (q : Q (.lst (cutL ds lo hi))) : Rs (slL (.lst ds) lo hi) Q E := q
theorem rs_slT {lo hi : Option Int} (q : Q (.tup (cutL ds lo hi))) : Rs (slD (.tup ds) lo hi) Q E := q
theorem cutS_ST {lo hi : Option Int} : cutS (Sg a) lo hi = Sg (cutL a lo hi) := by
  unfold cutS cutL
  rw [ST_len]
theorem rs_slS {lo hi : Option Int} (h : a.length ≤ sizeLine) (q : Q (.str (Sg (cutL a lo hi)))) : Rs (slD (.str (Sg a)) lo hi) Q E := rs_guard (by rw [ST_len]; exact h) (by rw [cutS_ST]; exact q)
theorem rs_rng1 {n : Nat} {Q : List D → Prop} (h : n < 4611686018427387904) (q : Q (rngL 0 n)) : Rs (rng1 [.int (n : Int)]) Q E := rs_guard (by omega) (by rw [Int.toNat_natCast]; exact q)
theorem rs_itsL {Q : List D → Prop} (q : Q ds) : Rs (itemsL (.lst ds)) Q E := q
theorem rs_itsT {Q : List D → Prop} (q : Q ds) : Rs (itemsT (.tup ds)) Q E := q
theorem rs_itsS {Q : List D → Prop} (q : Q (a.map fun n => .str (Sg [n]))) : Rs (itemsS (.str (Sg a))) Q E := q
theorem rs_enL {Q : List D → Prop} (q : Q (numd 0 ds)) : Rs (enumL (.lst ds)) Q E := q
theorem rs_enT {Q : List D → Prop} (q : Q (numd 0 ds)) : Rs (enumT (.tup ds)) Q E := q
theorem rs_enS {Q : List D → Prop} (q : Q (numd 0 (a.map fun n => .str (Sg [n])))) : Rs (enumS (.str (Sg a))) Q E := q
theorem rs_isi {T n : String} {b : Bool} (h1 : tyN d = some n) (h2 : kitB n T = some b) (q : Q (.bl b)) : Rs (isiD T d) Q E := by unfold isiD; rw [h1]; dsimp only; rw [h2]; exact q
end
section
variable {N B C : Rho → Prop} {R : D → Prop} {E : Rho → Str → List Str → List D → Prop} {r : Rho} {f f1 f2 fi : Rho → Res D} {fs : Rho → Res (List D)} {t : Rho → Res Bool} {d : D} {F K : Rho → SR} {i j : Nat}
theorem Ss.imp {N' B' C' : Rho → Prop} {R' : D → Prop} {E' : Rho → Str → List Str → List D → Prop} {o : SR} (h : Ss o N R B C E) (hn : ∀ r, N r → N' r) (hr : ∀ d, R d → R' d) (hb : ∀ r, B r → B' r) (hc : ∀ r, C r → C' r) (he : ∀ r n ns vs, E r n ns vs → E' r n ns vs) : Ss o N' R' B' C' E' := by
  cases o with
  | nx r => exact hn _ h
  | rt d => exact hr _ h
  | bk r => exact hb _ h
  | ct r => exact hc _ h
  | er r n ns vs => exact he _ _ _ _ h
  | bad => exact h
theorem ss_nx (h : N r) : Ss (.nx r) N R B C E := h
theorem ss_bk (h : B r) : Ss (.bk r) N R B C E := h
theorem ss_ct (h : C r) : Ss (.ct r) N R B C E := h
theorem ss_lift {α : Type} {x : Res α} {k : α → SR} (h : Rs x (fun a => Ss (k a) N R B C E) (E r)) : Ss (liftS r x k) N R B C E := by
  cases x with
  | ok a => exact h
  | err n ns vs => exact h
  | bad => exact h
theorem ss_seq (h : Ss (F r) (fun r' => Ss (K r') N R B C E) R B C E) : Ss (seqF F K r) N R B C E := by
  unfold seqF
  cases e : F r with
  | nx r' => rw [e] at h; exact h
  | rt d => rw [e] at h; exact h
  | bk r => rw [e] at h; exact h
  | ct r => rw [e] at h; exact h
  | er r n ns vs => rw [e] at h; exact h
  | bad => rw [e] at h; exact h
theorem ss_set (h : Rs (f r) (fun d => N (r.set i (some d))) (E r)) : Ss (setF i f r) N R B C E := ss_lift h
theorem ss_ret (h : Rs (f r) R (E r)) : Ss (retF f r) N R B C E := ss_lift h
theorem ss_drop (h : Rs (f r) (fun _ => N r) (E r)) : Ss (dropF f r) N R B C E := ss_lift h
theorem ss_if (h : Rs (t r) (fun b => (b = true → Ss (F r) N R B C E) ∧ (b = false → Ss (K r) N R B C E)) (E r)) : Ss (ifF t F K r) N R B C E := ss_lift (h.impE (fun b q => by
  cases b
  · exact q.2 rfl
  · exact q.1 rfl) fun _ _ _ z => z)
theorem ss_app {ds : List D} (h1 : r[i]? = some (some (.lst ds))) (h : Rs (f r) (fun d => ds.length < sizeLine ∧ N (r.set i (some (.lst (ds ++ [d]))))) (E r)) : Ss (appF i f r) N R B C E := by
  unfold appF
  refine ss_lift (Rs.of (a := ds) (by unfold ownL; rw [h1]) (ss_lift (h.impE (fun d q => ?_) fun _ _ _ z => z)))
  rw [guardS_pos q.1]; exact q.2
theorem ss_asg {tg : D → Rho → Res Rho} (h : Rs (f r) (fun d => ∃ r', tg d r = .ok r' ∧ N r') (E r)) : Ss (asgF tg f r) N R B C E := ss_lift (h.impE (fun d q => by
  obtain ⟨r', e, q⟩ := q
  rw [e]; exact q) fun _ _ _ z => z)
theorem ss_par (h : Rs (f1 r) (fun d => Rs (f2 r) (fun e => N ((r.set i (some d)).set j (some e))) (E r)) (E r)) : Ss (parF i j f1 f2 r) N R B C E := ss_lift (rs_cons (h.impE (fun d q => rs_cons (q.impE (fun e q => rs_nil q) fun _ _ _ z => z)) fun _ _ _ z => z))
theorem ss_aug {g : D → D → Res D} (h : Rs (dVar i r) (fun x => Rs (f r) (fun y => Rs (g x y) (fun z => N (r.set i (some z))) (E r)) (E r)) (E r)) : Ss (augF i g f r) N R B C E := ss_lift (h.impE (fun x q => ss_lift (q.impE (fun y q => ss_lift q) fun _ _ _ z => z)) fun _ _ _ z => z)
theorem rs_ints {g : Int → Int → Int} {Q : D → Prop} {E : Str → List Str → List D → Prop} {i j : Int} (q : Q (.int (g i j))) : Rs (intsD g (.int i) (.int j)) Q E := q
theorem ss_raise {n : Str} {ns : List Str} {rev : Bool} (h : Rs (fs r) (fun ds => ds.length = ns.length ∧ E r n ns (if rev then ds.reverse else ds)) (E r)) : Ss (raiF n ns rev fs r) N R B C E := ss_lift (h.impE (fun ds q => by
  rw [if_pos q.1]; exact q.2) fun _ _ _ z => z)
theorem ss_sto {ds : List D} {k : Int} {n : Nat} (h : Rs (f r) (fun d => r[i]? = some (some (.lst ds)) ∧ Rs (fi r) (fun x => x = .int k ∧ ixN ds.length k = some n ∧ N (r.set i (some (.lst (ds.set n d))))) (E r)) (E r)) : Ss (stoF i fi f r) N R B C E := ss_lift (h.impE (fun d q => ss_lift (Rs.of (a := ds) (by unfold ownL; rw [q.1]) (ss_lift (q.2.impE (fun x q => by
  obtain ⟨rfl, h2, h3⟩ := q
  refine ss_lift ?_
  show Ss (match ixN ds.length k with | some j => SR.nx (r.set i (some (.lst (ds.set j d)))) | none => .bad) N R B C E
  rw [h2]; exact h3) fun _ _ _ z => z)))) fun _ _ _ z => z)
theorem ss_fst {n fl : Str} {ns : List Str} {vs : List D} (h : Rs (f r) (fun d => r[i]? = some (some (.obj n ns vs)) ∧ ns.length < 1000 ∧ N (r.set i (some (.obj n (putN fl d ns vs).1 (putN fl d ns vs).2)))) (E r)) : Ss (fstF i n fl f r) N R B C E := ss_lift (h.impE (fun d q => by
  rw [q.1]
  show Ss (if n = n ∧ ns.length < 1000 then _ else _) N R B C E
  rw [if_pos ⟨rfl, q.2.1⟩]; exact q.2.2) fun _ _ _ z => z)
theorem ss_cut {N' : Rho → Prop} {o : SR} (M : Rho → Prop) (h : Ss o M R B C E) (k : ∀ r, M r → N' r) : Ss o N' R B C E := h.imp k (fun _ z => z) (fun _ z => z) (fun _ z => z) fun _ _ _ _ z => z
theorem ss_loop {tg : D → Rho → Res Rho} (I : Nat → Rho → Prop) : ∀ (ds : List D) (k : Nat) (r : Rho), I k r →
    (∀ i d r, ds[i]? = some d → I (k + i) r → ∃ r1, tg d r = .ok r1 ∧ Ss (F r1) (I (k + i + 1)) R N (I (k + i + 1)) E) → (∀ r, I (k + ds.length) r → N r) → Ss (loopF tg F ds r) N R B C E
  | [], k, r, h0, _, he => he r h0
  | d :: ds, k, r, h0, hs, he => by
    obtain ⟨r1, e1, h1⟩ := hs 0 d r rfl h0
    have go : ∀ r2, I (k + 1) r2 → Ss (loopF tg F ds r2) N R B C E := fun r2 h2 => ss_loop I ds (k + 1) r2 h2 (fun i d r h hi => by
      have z := hs (i + 1) d r (by simpa using h) (by rw [show k + (i + 1) = k + 1 + i from by omega]; exact hi)
      rw [show k + (i + 1) = k + 1 + i from by omega] at z
      exact z) fun r h => he r (by rw [List.length_cons, show k + (ds.length + 1) = k + 1 + ds.length from by omega]; exact h)
    rw [loopF, e1]
    dsimp only
    cases e : F r1 with
    | nx r2 => rw [e] at h1; exact go r2 h1
    | ct r2 => rw [e] at h1; exact go r2 h1
    | bk r2 => rw [e] at h1; exact h1
    | rt d => rw [e] at h1; exact h1
    | er r n ns vs => rw [e] at h1; exact h1
    | bad => rw [e] at h1; exact h1
/-- a for, by an invariant at each number of items -/
theorem ss_for {its : Rho → Res (List D)} {tg : D → Rho → Res Rho} (I : Nat → Rho → Prop) (h : Rs (its r) (fun ds => I 0 r ∧ (∀ i d r, ds[i]? = some d → I i r → ∃ r1, tg d r = .ok r1 ∧ Ss (F r1) (I (i + 1)) R N (I (i + 1)) E) ∧ ∀ r, I ds.length r → N r) (E r)) : Ss (forF its tg F r) N R B C E :=
  ss_lift (h.impE (fun ds q => ss_loop I ds 0 r q.1 (fun i d r h1 h2 => by
    have z := q.2.1 i d r h1 (by rw [Nat.zero_add] at h2; exact h2)
    rw [Nat.zero_add]; exact z) fun r h => q.2.2 r (by rw [Nat.zero_add] at h; exact h)) fun _ _ _ z => z)
theorem rngL_get {a : Int} {n i : Nat} {d : D} (h : (rngL a n)[i]? = some d) : i < n ∧ d = .int (a + (i : Int)) := by
  unfold rngL at h
  rw [List.getElem?_map] at h
  by_cases hi : i < n
  · rw [List.getElem?_range hi] at h
    cases h
    exact ⟨hi, rfl⟩
  · rw [List.getElem?_eq_none (by simp; omega)] at h
    cases h
theorem rngL_len (a : Int) (n : Nat) : (rngL a n).length = n := by unfold rngL; simp
/-- for k in range(n) -/
theorem ss_rng {m : Nat} (n : Nat) (I : Nat → Rho → Prop) (h : Rs (f r) (fun d => d = .int (n : Int)) (E r)) (hn : n < 4611686018427387904) (h0 : I 0 r) (hs : ∀ i r, i < n → I i r → Ss (F (r.set m (some (.int (i : Int))))) (I (i + 1)) R N (I (i + 1)) E) (he : ∀ r, I n r → N r) : Ss (forF (dIts rng1 (dCons f dNil)) (tgN m) F r) N R B C E :=
  ss_for I (rs_its (rs_cons (h.impE (fun d q => by
    subst q
    refine rs_nil (rs_rng1 hn ⟨h0, fun i d r h1 h2 => ?_, fun r h => he r (by rw [rngL_len] at h; exact h)⟩)
    obtain ⟨h3, rfl⟩ := rngL_get h1
    exact ⟨_, rfl, by rw [Int.zero_add]; exact hs i r h3 h2⟩) fun _ _ _ z => z)))
/-- for x in xs -/
theorem ss_each {α : Type} {m : Nat} (g : α → D) (xs : List α) (I : Nat → Rho → Prop) (h : Rs (f r) (fun d => d = .lst (xs.map g)) (E r)) (h0 : I 0 r) (hs : ∀ i x r, xs[i]? = some x → I i r → Ss (F (r.set m (some (g x)))) (I (i + 1)) R N (I (i + 1)) E) (he : ∀ r, I xs.length r → N r) : Ss (forF (dIt itemsL f) (tgN m) F r) N R B C E :=
  ss_for I (rs_it (h.impE (fun d q => by
    subst q
    refine rs_itsL ⟨h0, fun i d r h1 h2 => ?_, fun r h => he r (by rw [List.length_map] at h; exact h)⟩
    rw [List.getElem?_map] at h1
    cases hx : xs[i]? with
    | none => rw [hx] at h1; cases h1
    | some x => rw [hx] at h1; cases h1; exact ⟨_, rfl, hs i x r hx h2⟩) fun _ _ _ z => z))
theorem ss_while (n : Nat) (I : Nat → Rho → Prop) (hs : ∀ k r, I k r → Rs (t r) (fun b => (b = true → Ss (F r) (fun r' => ∃ k', k' < k ∧ I k' r') R N (fun r' => ∃ k', k' < k ∧ I k' r') E) ∧ (b = false → N r)) (E r)) : ∀ (k : Nat) (r : Rho), k < n → I k r → Ss (whileN t F n r) N R B C E := by
  induction n with
  | zero => intro k r h; omega
  | succ n ih =>
    intro k r hk h0
    rw [whileN]
    refine ss_lift ((hs k r h0).impE (fun b q => ?_) fun _ _ _ z => z)
    cases b with
    | false => exact q.2 rfl
    | true =>
      have q1 := q.1 rfl
      show Ss (if true = true then _ else _) N R B C E
      rw [if_pos rfl]
      cases e : F r with
      | nx r2 => rw [e] at q1; obtain ⟨k', h1, h2⟩ := q1; exact ih k' r2 (by omega) h2
      | ct r2 => rw [e] at q1; obtain ⟨k', h1, h2⟩ := q1; exact ih k' r2 (by omega) h2
      | bk r2 => rw [e] at q1; exact q1
      | rt d => rw [e] at q1; exact q1
      | er r n ns vs => rw [e] at q1; exact q1
      | bad => rw [e] at q1; exact q1
end
section
variable {Q : D → Prop} {E : Str → List Str → List D → Prop} {r : Rho} {f : Rho → Res D} {its : Rho → Res (List D)} {tg : D → Rho → Res Rho} {tt : Rho → Res Bool} {fe : Rho → Res D} {vs : List Nat}
theorem lc_mapX {α : Type} (c g : α → D) {rw : Rho} : ∀ xs : List α, (∀ x ∈ xs, ∃ r1, tg (c x) rw = .ok r1 ∧ tt r1 = .ok true ∧ Rs (fe r1) (fun e => e = g x) nE) → lcLoop tg tt fe rw (xs.map c) = .ok (xs.map g)
  | [], _ => rfl
  | x :: xs, h => by
    obtain ⟨r1, h1, h2, h3⟩ := h x (by simp)
    rw [List.map_cons, lcLoop, h1]
    dsimp only
    rw [h2]
    dsimp only
    rw [h3.eq]
    dsimp only
    rw [lc_mapX c g xs fun y hy => h y (by simp [hy])]
    rfl
theorem rs_lc {α : Type} (c g : α → D) (xs : List α) (hi : Rs (its r) (fun ds => ds = xs.map c) E) (hl : xs.length ≤ sizeLine) (hs : ∀ x ∈ xs, ∃ r1, tg (c x) (wipeR r vs) = .ok r1 ∧ tt r1 = .ok true ∧ Rs (fe r1) (fun e => e = g x) nE) (q : Q (.lst (xs.map g))) : Rs (dLc its tg tt fe vs r) Q E :=
  Rs.bind (hi.impE (fun ds e => by
    subst e
    refine rs_guard (by rw [List.length_map]; exact hl) ?_
    rw [lc_mapX c g xs hs]; exact q) fun _ _ _ z => z)
theorem lc_someX {α β : Type} (c : α → D) (g : β → D) (P : Nat → α → β → Prop) {rw : Rho} : ∀ (xs : List α) (k : Nat), (∀ i x, xs[i]? = some x → ∃ r1, tg (c x) rw = .ok r1 ∧ tt r1 = .ok true ∧ Rs (fe r1) (fun e => ∃ y, e = g y ∧ P (k + i) x y) nE) →
    ∃ ys : List β, lcLoop tg tt fe rw (xs.map c) = .ok (ys.map g) ∧ ys.length = xs.length ∧ ∀ i x y, xs[i]? = some x → ys[i]? = some y → P (k + i) x y
  | [], k, _ => ⟨[], rfl, rfl, fun i x y h => by simp at h⟩
  | x :: xs, k, h => by
    obtain ⟨r1, h1, h2, h3⟩ := h 0 x rfl
    obtain ⟨e, h4, y, rfl, h5⟩ := h3.get
    obtain ⟨ys, a1, a2, a3⟩ := lc_someX c g P xs (k + 1) fun i z hz => by
      have := h (i + 1) z (by simpa using hz)
      rw [show k + (i + 1) = k + 1 + i from by omega] at this
      exact this
    refine ⟨y :: ys, ?_, by simp [a2], fun i x' y' hx hy => ?_⟩
    · rw [List.map_cons, lcLoop, h1]
      dsimp only
      rw [h2]
      dsimp only
      rw [h4]
      dsimp only
      rw [a1]
      rfl
    · cases i with
      | zero => simp at hx hy; subst hx hy; exact h5
      | succ i =>
        have := a3 i x' y' (by simpa using hx) (by simpa using hy)
        rw [show k + (i + 1) = k + 1 + i from by omega]
        exact this
/-- a comprehension of which one knows only what each item is like -/
theorem rs_lcS {α β : Type} (c : α → D) (g : β → D) (P : Nat → α → β → Prop) (xs : List α) (hi : Rs (its r) (fun ds => ds = xs.map c) E) (hl : xs.length ≤ sizeLine) (hs : ∀ i x, xs[i]? = some x → ∃ r1, tg (c x) (wipeR r vs) = .ok r1 ∧ tt r1 = .ok true ∧ Rs (fe r1) (fun e => ∃ y, e = g y ∧ P i x y) nE)
    (q : ∀ ys : List β, ys.length = xs.length → (∀ i x y, xs[i]? = some x → ys[i]? = some y → P i x y) → Q (.lst (ys.map g))) : Rs (dLc its tg tt fe vs r) Q E :=
  Rs.bind (hi.impE (fun ds e => by
    subst e
    refine rs_guard (by rw [List.length_map]; exact hl) ?_
    obtain ⟨ys, a1, a2, a3⟩ := lc_someX c g P xs 0 fun i x hx => by
      have := hs i x hx
      rw [Nat.zero_add]; exact this
    rw [a1]
    exact q ys a2 fun i x y hx hy => by have := a3 i x y hx hy; rw [Nat.zero_add] at this; exact this) fun _ _ _ z => z)
theorem rng0_map (n : Nat) : rngL 0 n = (List.range n).map fun (i : Nat) => D.int (i : Int) := by
  unfold rngL
  refine List.map_congr_left fun k _ => ?_
  rw [Int.zero_add]
/-- range(n) as the items of a comprehension -/
theorem rs_rngC {n : Nat} (h : Rs (f r) (fun d => d = .int (n : Int)) E) (hn : n < 4611686018427387904) : Rs (dIts rng1 (dCons f dNil) r) (fun ds => ds = (List.range n).map fun (i : Nat) => D.int (i : Int)) E :=
  rs_its (rs_cons (h.impE (fun d q => by subst q; exact rs_nil (rs_rng1 hn (rng0_map n))) fun _ _ _ z => z))
theorem rs_run {n : Nat} {F : Rho → SR} {as : List D} (h : Ss (F (startR n as)) (fun _ => Q .non) Q nR nR (fun _ => E)) : Rs (runF n false F as) Q E := by
  unfold runF
  cases e : F (startR n as) with
  | nx r => rw [e] at h; exact h
  | rt d => rw [e] at h; exact h
  | bk r => rw [e] at h; exact h.elim
  | ct r => rw [e] at h; exact h.elim
  | er r n ns vs => rw [e] at h; exact h
  | bad => rw [e] at h; exact h.elim
theorem rs_runI {n : Nat} {cls : Str} {F : Rho → SR} {as : List D} (h : Ss (F (startI n cls as)) (fun r => ∃ d, r[0]? = some (some d) ∧ Q d) (fun _ => False) nR nR (fun _ => E)) : Rs (runI n cls F as) Q E := by
  unfold runI
  cases e : F (startI n cls as) with
  | nx r => rw [e] at h; obtain ⟨d, h1, h2⟩ := h; dsimp only; rw [h1]; exact h2
  | rt d => rw [e] at h; exact h.elim
  | bk r => rw [e] at h; exact h.elim
  | ct r => rw [e] at h; exact h.elim
  | er r n ns vs => rw [e] at h; exact h
  | bad => rw [e] at h; exact h.elim
/-- a try -/
theorem ss_try {isM : Str → Option Bool} {i : Nat} {Fb Fs : Rho → SR} {N B C : Rho → Prop} {R : D → Prop} {E : Rho → Str → List Str → List D → Prop} (h : Ss (Fb r) N R B C fun r' n ns vs => isM n = some true ∧ Ss (Fs (r'.set i (some (.obj n ns vs)))) (fun r => N (r.set i none)) R (fun r => B (r.set i none)) (fun r => C (r.set i none)) nE') : Ss (tryF isM i Fb Fs r) N R B C E := by
  unfold tryF
  cases e : Fb r with
  | nx r => rw [e] at h; exact h
  | rt d => rw [e] at h; exact h
  | bk r => rw [e] at h; exact h
  | ct r => rw [e] at h; exact h
  | bad => rw [e] at h; exact h
  | er r' n ns vs =>
    rw [e] at h
    obtain ⟨h1, h2⟩ := h
    dsimp only
    rw [h1]
    dsimp only
    cases e2 : Fs (r'.set i (some (.obj n ns vs))) with
    | nx r => rw [e2] at h2; exact h2
    | rt d => rw [e2] at h2; exact h2
    | bk r => rw [e2] at h2; exact h2
    | ct r => rw [e2] at h2; exact h2
    | bad => rw [e2] at h2; exact h2
    | er r n ns vs => rw [e2] at h2; exact h2.elim
end
end Dx
namespace Dx
open PySem L2
theorem sz5 : (100000 : Nat) ≤ sizeLine := by decide
theorem small_of {i : Int} (h : -1000000000000 < i) (h' : i < 1000000000000) : smallI i := by unfold smallI; omega
def Fit : List Int → List Int → Prop
  | [], [] => True
  | v :: vs, l :: ls => 0 ≤ v ∧ v < l ∧ Fit vs ls
  | _, _ => False
theorem Fit.cons {vs : List Int} {l : Int} {ls : List Int} (h : Fit vs (l :: ls)) : ∃ v us, vs = v :: us ∧ 0 ≤ v ∧ v < l ∧ Fit us ls := by
  cases vs with
  | nil => exact h.elim
  | cons v us => exact ⟨v, us, rfl, h⟩
theorem Fit.nil {vs : List Int} (h : Fit vs []) : vs = [] := by
  cases vs with
  | nil => rfl
  | cons v us => exact h.elim
theorem Fit.len : ∀ {vs ls : List Int}, Fit vs ls → vs.length = ls.length
  | [], [], _ => rfl
  | v :: vs, l :: ls, h => by simp [Fit.len h.2.2]
  | [], _ :: _, h => h.elim
  | _ :: _, [], h => h.elim
theorem Fit.snoc : ∀ {vs ls : List Int} {v l : Int}, Fit vs ls → 0 ≤ v → v < l → Fit (vs ++ [v]) (ls ++ [l])
  | [], [], v, l, _, h1, h2 => ⟨h1, h2, trivial⟩
  | a :: vs, b :: ls, v, l, h, h1, h2 => ⟨h.1, h.2.1, Fit.snoc h.2.2 h1 h2⟩
  | [], _ :: _, _, _, h, _, _ => h.elim
  | _ :: _, [], _, _, h, _, _ => h.elim
theorem Fit.get : ∀ {vs ls : List Int} {k : Nat} {l : Int}, Fit vs ls → ls[k]? = some l → ∃ v, vs[k]? = some v ∧ 0 ≤ v ∧ v < l
  | [], [], _, _, _, h => by simp at h
  | v :: vs, l :: ls, 0, l', h, e => by simp at e; subst e; exact ⟨v, by simp, h.1, h.2.1⟩
  | v :: vs, l :: ls, k + 1, l', h, e => by
    obtain ⟨w, h1, h2⟩ := Fit.get (k := k) h.2.2 (by simpa using e)
    exact ⟨w, by simpa using h1, h2⟩
  | [], _ :: _, _, _, h, _ => h.elim
  | _ :: _, [], _, _, h, _ => h.elim
abbrev iL (ns : List Int) : D := .lst (ns.map D.int)
theorem take_snoc {α : Type} {xs : List α} {i : Nat} {x : α} (h : xs[i]? = some x) : xs.take (i + 1) = xs.take i ++ [x] := by
  rw [List.take_add_one, h]; rfl
end Dx
end S_DxM
section S_DxN
set_option Elab.async false
set_option linter.all false
set_option maxRecDepth 100000
namespace Dx
open PySem L2
def endB (a b : List Nat) : Bool := decide (b.length ≤ a.length) && decide (a.drop (a.length - b.length) = b)
def startB (a b : List Nat) : Bool := decide (b.length ≤ a.length) && decide (a.take b.length = b)
theorem beq_dec (a b : List Nat) : (a == b) = decide (a = b) := by
  by_cases h : a = b
  · subst h; simp
  · simp [h]
theorem end_ST (a b : List Nat) : Txt.endswith (Sg a) (Sg b) = endB a b := by
  unfold Txt.endswith endB
  rw [PySem.StrLaws.subAt_eq, ST_len, ST_len, Nat.zero_add]
  show (decide (b.length ≤ a.length) && ((a.drop (a.length - b.length)).take b.length == b)) = _
  by_cases h : b.length ≤ a.length
  · rw [List.take_of_length_le (by rw [List.length_drop]; omega), beq_dec]
  · rw [decide_eq_false h]; rfl
theorem start_ST (a b : List Nat) : Txt.startswith (Sg a) (Sg b) = startB a b := by
  unfold Txt.startswith startB
  rw [PySem.StrLaws.subAt_eq, ST_len, ST_len, Nat.zero_add]
  show (decide (b.length ≤ a.length) && ((a.drop 0).take b.length == b)) = _
  rw [List.drop_zero, beq_dec]
/-- split at one sign -/
abbrev spc (c : Nat) (a : List Nat) : List (List Nat) := TL.spl [c] 0 [] a
theorem split_ST (a : List Nat) (c : Nat) (hc : c < 256) : Txt.split (Sg a) (Sg [c]) = (spc c a).map Sg := by
  refine TL.map_tl_inj ?_
  rw [TL.split_spl _ _ (by show [c] ≠ []; simp) (TL.kind_ok (by show #[c].all _ = true; simp [hc])), List.map_map]
  show spc c a = _
  rw [show TL.tl ∘ Sg = id from rfl, List.map_id]
theorem pre1 (c x : Nat) (r : List Nat) : TL.pre [c] (x :: r) = decide (x = c) := by
  unfold TL.pre
  show ([x] == [c]) = _
  rw [beq_dec]
  by_cases h : x = c
  · subst h; simp
  · simp [h]
theorem spl_cons (c x : Nat) (acc r : List Nat) : TL.spl [c] 0 acc (x :: r) = if x = c then acc :: TL.spl [c] 0 [] r else TL.spl [c] 0 (acc ++ [x]) r := by
  by_cases h : x = c
  · rw [if_pos h, TL.spl_hit (by rw [pre1]; exact decide_eq_true h)]; rfl
  · rw [if_neg h, TL.spl_miss (by rw [pre1]; exact decide_eq_false h)]
theorem spl_pref (c : Nat) : ∀ (a acc r : List Nat), c ∉ a → TL.spl [c] 0 acc (a ++ r) = TL.spl [c] 0 (acc ++ a) r
  | [], acc, r, _ => by simp
  | x :: a, acc, r, h => by
    have hx : x ≠ c := fun e => h (by simp [e])
    rw [List.cons_append, spl_cons, if_neg hx, spl_pref c a _ r fun z => h (by simp [z])]
    simp
theorem spc_none {c : Nat} {a : List Nat} (ha : c ∉ a) : spc c a = [a] := by
  have := spl_pref c a [] [] ha
  rw [List.append_nil, TL.spl_nil] at this
  exact this
theorem allStr_map {α : Type} (g : α → List Nat) : ∀ xs : List α, allStr (xs.map fun x => .str (Sg (g x))) = some (xs.map fun x => Sg (g x))
  | [] => rfl
  | x :: xs => by rw [List.map_cons, allStr, allStr_map g xs]; rfl
theorem joinL_nil : ∀ xs : List (List Nat), TL.joinL [] xs = xs.flatten
  | [] => rfl
  | [a] => by simp [TL.joinL]
  | a :: b :: r => by rw [TL.joinL, List.nil_append, joinL_nil (b :: r)]; rfl
theorem join_ST (s : List Nat) (xs : List (List Nat)) : Txt.join (Sg s) (xs.map Sg) = Sg (TL.joinL s xs) := by
  rw [TL.join_eq]
  refine TL.ext_tl ?_
  rw [TL.tl_join, List.map_map, show TL.tl ∘ Sg = id from rfl, List.map_id]
section
variable {Q : D → Prop} {E : Str → List Str → List D → Prop} {a b : List Nat}
theorem rs_end (q : Q (.bl (endB a b))) : Rs (endD (.str (Sg a)) (.str (Sg b))) Q E := by
  show Q (.bl (Txt.endswith (Sg a) (Sg b)))
  rw [end_ST]; exact q
theorem rs_start (q : Q (.bl (startB a b))) : Rs (startD (.str (Sg a)) (.str (Sg b))) Q E := by
  show Q (.bl (Txt.startswith (Sg a) (Sg b)))
  rw [start_ST]; exact q
theorem rs_split {c : Nat} (h : c < 256 ∧ a.length + 2 ≤ sizeLine) (q : Q (.lst ((spc c a).map fun l => .str (Sg l)))) : Rs (splitD (.str (Sg a)) (.str (Sg [c]))) Q E := by
  refine rs_guard ⟨rfl, by rw [ST_len]; exact h.2⟩ ?_
  show Q (.lst (strsD (Txt.split (Sg a) (Sg [c]))))
  rw [split_ST a c h.1]
  unfold strsD
  rw [List.map_map]; exact q
theorem rs_joinS {α : Type} {g : α → List Nat} {xs : List α} (h : (xs.map fun x => (g x).length).sum ≤ 16777216) (q : Q (.str (Sg (xs.map g).flatten))) : Rs (joinD (.str (Sg [])) (.lst (xs.map fun x => .str (Sg (g x))))) Q E := by
  show Rs (joinZ (Sg []) (allStr (xs.map fun x => .str (Sg (g x))))) Q E
  rw [allStr_map]
  refine rs_guard ?_ ?_
  · rw [List.map_map]
    simp only [ST_len, Function.comp_def, List.length_nil, Nat.mul_zero, Nat.add_zero]
    exact h
  · have := join_ST [] (xs.map g)
    rw [List.map_map, joinL_nil] at this
    show Q (.str (Txt.join (Sg []) (xs.map (Sg ∘ g))))
    rw [this]; exact q
theorem rs_joinC {ns : List Nat} (h : ns.length ≤ 16777216) (q : Q (.str (Sg ns))) : Rs (joinD (.str (Sg [])) (.lst (ns.map fun n => .str (Sg [n])))) Q E := by
  refine rs_joinS (g := fun n => [n]) ?_ ?_
  · have : ∀ l : List Nat, (l.map fun n => ([n] : List Nat).length).sum = l.length := fun l => by
      induction l with
      | nil => rfl
      | cons a l ih => rw [List.map_cons, List.sum_cons, ih, List.length_cons]; simp; omega
    rw [this]; exact h
  · have : ∀ l : List Nat, (l.map fun n => ([n] : List Nat)).flatten = l := fun l => by
      induction l with
      | nil => rfl
      | cons a l ih => rw [List.map_cons, List.flatten_cons, ih]; rfl
    rw [this]; exact q
end
section
variable {Q : D → Prop} {E : Str → List Str → List D → Prop}
theorem rs_isi_non_bool  (q : Q (.bl false)) : Rs (isiD "bool" .non) Q E := rs_isi rfl (by decide +kernel) q
theorem rs_isi_non_int  (q : Q (.bl false)) : Rs (isiD "int" .non) Q E := rs_isi rfl (by decide +kernel) q
theorem rs_isi_non_str  (q : Q (.bl false)) : Rs (isiD "str" .non) Q E := rs_isi rfl (by decide +kernel) q
theorem rs_isi_non_tuple  (q : Q (.bl false)) : Rs (isiD "tuple" .non) Q E := rs_isi rfl (by decide +kernel) q
theorem rs_isi_non_list  (q : Q (.bl false)) : Rs (isiD "list" .non) Q E := rs_isi rfl (by decide +kernel) q
theorem rs_isi_bl_bool {x : Bool} (q : Q (.bl true)) : Rs (isiD "bool" (.bl x)) Q E := rs_isi rfl (by decide +kernel) q
theorem rs_isi_bl_int {x : Bool} (q : Q (.bl true)) : Rs (isiD "int" (.bl x)) Q E := rs_isi rfl (by decide +kernel) q
theorem rs_isi_bl_str {x : Bool} (q : Q (.bl false)) : Rs (isiD "str" (.bl x)) Q E := rs_isi rfl (by decide +kernel) q
theorem rs_isi_bl_tuple {x : Bool} (q : Q (.bl false)) : Rs (isiD "tuple" (.bl x)) Q E := rs_isi rfl (by decide +kernel) q
theorem rs_isi_bl_list {x : Bool} (q : Q (.bl false)) : Rs (isiD "list" (.bl x)) Q E := rs_isi rfl (by decide +kernel) q
theorem rs_isi_int_bool {x : Int} (q : Q (.bl false)) : Rs (isiD "bool" (.int x)) Q E := rs_isi rfl (by decide +kernel) q
theorem rs_isi_int_int {x : Int} (q : Q (.bl true)) : Rs (isiD "int" (.int x)) Q E := rs_isi rfl (by decide +kernel) q
theorem rs_isi_int_str {x : Int} (q : Q (.bl false)) : Rs (isiD "str" (.int x)) Q E := rs_isi rfl (by decide +kernel) q
theorem rs_isi_int_tuple {x : Int} (q : Q (.bl false)) : Rs (isiD "tuple" (.int x)) Q E := rs_isi rfl (by decide +kernel) q
theorem rs_isi_int_list {x : Int} (q : Q (.bl false)) : Rs (isiD "list" (.int x)) Q E := rs_isi rfl (by decide +kernel) q
theorem rs_isi_str_bool {x : Str} (q : Q (.bl false)) : Rs (isiD "bool" (.str x)) Q E := rs_isi rfl (by decide +kernel) q
theorem rs_isi_str_int {x : Str} (q : Q (.bl false)) : Rs (isiD "int" (.str x)) Q E := rs_isi rfl (by decide +kernel) q
theorem rs_isi_str_str {x : Str} (q : Q (.bl true)) : Rs (isiD "str" (.str x)) Q E := rs_isi rfl (by decide +kernel) q
theorem rs_isi_str_tuple {x : Str} (q : Q (.bl false)) : Rs (isiD "tuple" (.str x)) Q E := rs_isi rfl (by decide +kernel) q
theorem rs_isi_str_list {x : Str} (q : Q (.bl false)) : Rs (isiD "list" (.str x)) Q E := rs_isi rfl (by decide +kernel) q
theorem rs_isi_lst_bool {x : List D} (q : Q (.bl false)) : Rs (isiD "bool" (.lst x)) Q E := rs_isi rfl (by decide +kernel) q
theorem rs_isi_lst_int {x : List D} (q : Q (.bl false)) : Rs (isiD "int" (.lst x)) Q E := rs_isi rfl (by decide +kernel) q
theorem rs_isi_lst_str {x : List D} (q : Q (.bl false)) : Rs (isiD "str" (.lst x)) Q E := rs_isi rfl (by decide +kernel) q
theorem rs_isi_lst_tuple {x : List D} (q : Q (.bl false)) : Rs (isiD "tuple" (.lst x)) Q E := rs_isi rfl (by decide +kernel) q
theorem rs_isi_lst_list {x : List D} (q : Q (.bl true)) : Rs (isiD "list" (.lst x)) Q E := rs_isi rfl (by decide +kernel) q
theorem rs_isi_tup_bool {x : List D} (q : Q (.bl false)) : Rs (isiD "bool" (.tup x)) Q E := rs_isi rfl (by decide +kernel) q
theorem rs_isi_tup_int {x : List D} (q : Q (.bl false)) : Rs (isiD "int" (.tup x)) Q E := rs_isi rfl (by decide +kernel) q
theorem rs_isi_tup_str {x : List D} (q : Q (.bl false)) : Rs (isiD "str" (.tup x)) Q E := rs_isi rfl (by decide +kernel) q
theorem rs_isi_tup_tuple {x : List D} (q : Q (.bl true)) : Rs (isiD "tuple" (.tup x)) Q E := rs_isi rfl (by decide +kernel) q
theorem rs_isi_tup_list {x : List D} (q : Q (.bl false)) : Rs (isiD "list" (.tup x)) Q E := rs_isi rfl (by decide +kernel) q
end
theorem cut_take {α : Type} (a : List α) (k : Nat) : cutL a none (some (k : Int)) = a.take k := by
  unfold cutL
  rw [HT.sIx_none, HT.sIx_nat, List.drop_zero, Nat.sub_zero]
  by_cases h : k ≤ a.length
  · rw [Nat.min_eq_left h]
  · rw [Nat.min_eq_right (by omega), List.take_length, List.take_of_length_le (by omega)]
theorem cut_drop {α : Type} (a : List α) (k : Nat) : cutL a (some (k : Int)) none = a.drop k := by
  unfold cutL
  rw [HT.sIx_none, HT.sIx_nat]
  by_cases h : k ≤ a.length
  · rw [Nat.min_eq_left h, List.take_of_length_le (by rw [List.length_drop]; omega)]
  · rw [Nat.min_eq_right (by omega), Nat.sub_self, List.take_zero, List.drop_of_length_le (by omega)]
theorem cut_mid {α : Type} (a : List α) (j k : Nat) : cutL a (some (j : Int)) (some (k : Int)) = (a.take k).drop j := by
  unfold cutL
  rw [HT.sIx_nat, HT.sIx_nat, List.drop_take]
  by_cases h2 : j ≤ a.length
  · rw [Nat.min_eq_left h2]
    by_cases h : k ≤ a.length
    · rw [Nat.min_eq_left h]
    · rw [Nat.min_eq_right (by omega), List.take_of_length_le (by rw [List.length_drop]; omega), List.take_of_length_le (by rw [List.length_drop]; omega)]
  · rw [List.drop_of_length_le (show a.length ≤ j by omega), List.drop_of_length_le (by omega)]
    simp
/-- a[:-k] -/
theorem cut_back {α : Type} (a : List α) (k : Nat) (hk : 0 < k) : cutL a none (some (-(k : Int))) = a.take (a.length - k) := by
  unfold cutL
  have e : HT.sIx a.length a.length (some (-(k : Int))) = a.length - k := by
    show (if -(k : Int) < 0 then (-(k : Int) + (a.length : Int)).toNat else _) = _
    rw [if_pos (by omega)]; omega
  rw [e, HT.sIx_none, List.drop_zero, Nat.sub_zero]
end Dx
end S_DxN
section S_DxQ
set_option Elab.async false
set_option linter.all false
set_option maxRecDepth 100000
namespace Dx
open PySem L2
section
variable {Q : D → Prop} {E : Str → List Str → List D → Prop} {r : Rho} {f f1 : Rho → Res D} {fs : Rho → Res (List D)} {n fl gl : Str} {ns : List Str} {vs ds es : List D} {F : List D → Res D} {x d : D}
theorem rs_star {Q : List D → Prop} (h : Rs (f r) (fun d => Rs (items d) (fun xs => Rs (fs r) (fun ys => Q (xs ++ ys)) E) E) E) : Rs (dStar f fs r) Q E := Rs.bind (h.impE (fun a q => Rs.bind (q.impE (fun _ q => Rs.bind q) fun _ _ _ z => z)) fun _ _ _ z => z)
theorem rs_itemsL {Q : List D → Prop} (q : Q ds) : Rs (items (.lst ds)) Q E := q
theorem rs_itemsT {Q : List D → Prop} (q : Q ds) : Rs (items (.tup ds)) Q E := q
theorem rs_zipL {Q : List D → Prop} (q : Q (pairs ds es)) : Rs (zipL [.lst ds, .lst es]) Q E := q
theorem rs_zipS {a b : List Nat} {Q : List D → Prop} (q : Q (pairs (a.map fun n => .str (Sg [n])) (b.map fun n => .str (Sg [n])))) : Rs (zipS [.str (Sg a), .str (Sg b)]) Q E := q
theorem isCls_self : isCls n (.obj n ns vs) = true := by unfold isCls; exact decide_eq_true rfl
theorem rs_callO (h : Rs (f1 r) (fun x => ∃ ns vs, x = .obj n ns vs ∧ Rs (fs r) (fun ds => Rs (F (x :: ds)) Q E) E) E) : Rs (dCallO n F f1 fs r) Q E := Rs.bind (h.impE (fun a q => by
  obtain ⟨ns, vs, rfl, q⟩ := q
  show Rs (if isCls n (.obj n ns vs) = true then _ else _) Q E
  rw [if_pos isCls_self]
  exact Rs.bind q) fun _ _ _ z => z)
end
end Dx
end S_DxQ
section S_DxR
set_option Elab.async false
set_option linter.all false
set_option maxRecDepth 100000
set_option maxHeartbeats 2000000
namespace Dx
open PySem L2 ItX
open PyProof.Rows hiding St
section
variable {X : Cx} {c : Cf} {L G G' : List Ow} {f f1 f2 : Rho → Res D} {e o a b : Expr} {es : List Expr} {pos apos p : Pos} {fs : Rho → Res (List D)} {n : Str} {C : Addr} {F : List D → Res D} {rm : Bool} {k : Nat} {fa : Addr} {fd : FuncData} {ps : List Str}
def keyD : D → Option Key
  | .int i => some (.inl i)
  | .str z => some (.inr z)
  | _ => none
def keyOf : Key → D
  | .inl i => .int i
  | .inr z => .str z
def getK {κ : Type} [DecidableEq κ] : List κ → List D → κ → Option D
  | k :: ks, v :: vs, x => if k = x then some v else getK ks vs x
  | _, _, _ => none
def putV {κ : Type} [DecidableEq κ] (ks : List κ) (vs : List D) (x : κ) (d : D) : List κ × List D := if (ks.any fun k => decide (k = x)) = true then (ks, List.zipWith (fun k v => if k = x then d else v) ks vs) else (ks ++ [x], vs ++ [d])
theorem key_v {K : PySem.W.Frag} {cm : CM} {S H : Hp} {v : V} {d : D} {k : Key} (h : RpB K cm S H v d) (q : keyD d = some k) : v = kV k := by
  cases d with
  | int i => cases q; exact h.int
  | str z => cases q; exact h.str
  | _ => cases q
theorem get_rp {κ : Type} [DecidableEq κ] {K : PySem.W.Frag} {cm : CM} {S : Hp} (k : κ) : ∀ {kvs : List (κ × V)} {ds : List D}, RpA K cm S (kvs.map (·.2)) ds →
    (∀ d, getK (kvs.map (·.1)) ds k = some d → ∃ v, valV kvs k = some v ∧ Rp K cm S v d) ∧ (getK (kvs.map (·.1)) ds k = none → valV kvs k = none)
  | [], ds, h => ⟨fun d q => by simp [getK] at q, fun _ => rfl⟩
  | (k', v') :: kvs, ds, h => by
    cases h with
    | @cons v vs d ds hd hr =>
      obtain ⟨g1, g2⟩ := get_rp k hr
      by_cases e : k' = k
      · rw [valV_pos (p := (k', v')) e]
        refine ⟨fun z q => ?_, fun q => ?_⟩
        · rw [List.map_cons, getK, if_pos e] at q
          cases q
          exact ⟨_, rfl, hd⟩
        · rw [List.map_cons, getK, if_pos e] at q
          cases q
      · rw [valV_neg (p := (k', v')) e]
        refine ⟨fun z q => ?_, fun q => ?_⟩
        · rw [List.map_cons, getK, if_neg e] at q
          exact g1 z q
        · rw [List.map_cons, getK, if_neg e] at q
          exact g2 q
theorem put_rp {κ : Type} [DecidableEq κ] {K : PySem.W.Frag} {cm : CM} {S : Hp} {k : κ} {v : V} {d : D} (hv : Rp K cm S v d) {kvs : List (κ × V)} {ds : List D} (h : RpA K cm S (kvs.map (·.2)) ds) :
    (putV (kvs.map (·.1)) ds k d).1 = (putK kvs k v).map (·.1) ∧ RpA K cm S ((putK kvs k v).map (·.2)) (putV (kvs.map (·.1)) ds k d).2 := by
  have hany : ((kvs.map (·.1)).any fun z => decide (z = k)) = (kvs.any fun kv => decide (kv.1 = k)) := by rw [List.any_map]; rfl
  unfold putV putK
  rw [hany]
  by_cases hm : (kvs.any fun kv => decide (kv.1 = k)) = true
  · rw [if_pos hm, if_pos hm]
    refine ⟨?_, ?_⟩
    · rw [List.map_map]
      refine List.map_congr_left fun p _ => ?_
      show p.1 = (if p.1 = k then (p.1, v) else p).1
      split <;> rfl
    · clear hm hany
      induction kvs generalizing ds with
      | nil => cases h; exact .nil
      | cons p kvs ih =>
        cases h with
        | @cons v' vs' d' ds' hd hr =>
          refine .cons ?_ (ih hr)
          show Rp K cm S (if p.1 = k then (p.1, v) else p).2 (if p.1 = k then d else d')
          split
          · exact hv
          · exact hd
  · rw [if_neg hm, if_neg hm]
    refine ⟨by simp, ?_⟩
    rw [List.map_append]
    exact h.app (.one hv)
/-- {} -/
def dD0 : Rho → Res D := fun _ => .ok (.dk [] [])
/-- k in d -/
def inK (neg : Bool) : D → D → Res D
  | k, .dk ks vs => match keyD k with
    | some x => .ok (.bl (if neg then !(getK ks vs x).isSome else (getK ks vs x).isSome))
    | none => .bad
  | _, _ => .bad
/-- list(d), len(d) -/
def listK : D → Res D
  | .dk ks _ => .ok (.lst (ks.map keyOf))
  | _ => .bad
def lenK : D → Res D
  | .dk ks _ => .ok (.int ks.length)
  | .dt ks _ => .ok (.int ks.length)
  | _ => .bad
/-- d[k] = v, d an own dict -/
def ownK (i : Nat) (r : Rho) : Res (List Key × List D) := match r[i]? with
  | some (some (.dk ks vs)) => .ok (ks, vs)
  | _ => .bad
def asK (d : D) : Res Key := match keyD d with
  | some k => .ok k
  | none => .bad
noncomputable def putF (i : Nat) (fk f : Rho → Res D) : Rho → SR := fun r => liftS r (f r) fun d => liftS r (ownK i r) fun o => liftS r (fk r) fun k => liftS r (asK k) fun x => guardS (o.1.length < sizeLine) (.nx (r.set i (some (.dk (putV o.1 o.2 x d).1 (putV o.1 o.2 x d).2))))
theorem ds_put (i : Nat) {x : Str} {pn p' : Pos} {ix : Expr} {fk : Rho → Res D} (hg : Gok c G) (hr : Room k X.A) (kk : kd G i = .o) (ho : PE X (.Name x pn) (tVar i)) (hi : PE X ix (tV c G fk)) (he : PE X e (tV c G f))
    (hs : swapsWith e (some (.Subscript (.Name x pn) ix p')) pos.line X.env = pure false := by rfl) : PS X (.Assign [.Subscript (.Name x pn) ix p'] e pos) (sD c L G G (putF i fk f)) :=
  ps_imp (ps_dput (by have := hr.units; omega) ho hi he hs) fun E σ H ⟨S0, H0, S, r, ok, p⟩ => st_seq hg ok p fun d v S1 H1 w1 o1 m1 p1 => by
    cases hK : ownK i r with
    | err n ns vs => exfalso; unfold ownK at hK; split at hK <;> cases hK
    | bad => rw [hK] at p1; exact p1.elim
    | ok o =>
      rw [hK] at p1
      unfold ownK at hK
      split at hK
      · rename_i ks vs hd
        cases hK
        obtain ⟨q, ho, s1, s2, s3, s4, s5⟩ := o1.own kk hd
        cases s5 with
        | @dk kvs _ _ hks hvs =>
          subst hks
          refine ⟨.ref q, s1, st_seq hg o1 p1 fun kd' kv S2 H2 w2 o2 m2 p2 => ?_⟩
          unfold asK at p2
          split at p2
          · rename_i xk hx
            have hxk : keyD kd' = some xk := hx
            obtain ⟨hl, p3⟩ := p2.gd
            have hq2 : H2 q = some (.dK kvs) := w2.h _ _ s2
            have ev : kv = kV xk := key_v (H := H2) (.inl m2) hxk
            subst ev
            have pr := put_rp (k := xk) (m1.mono w2.s) (hvs.mono w2.s)
            have hl' : kvs.length < sizeLine := by simpa using hl
            refine ⟨q, _, rfl, DPut.k hq2 hl', p3 σ S2 _ (o2.mut kk hd s1 (.dk pr.1 pr.2))⟩
          · exact p2.elim
      · cases hK
end
end Dx
end S_DxR
section S_DxI
set_option Elab.async false
set_option linter.all false
set_option maxRecDepth 100000
set_option maxHeartbeats 2000000
namespace Dx
open PySem L2 ItX PyProof.Rows
section
variable {X : Cx} {c : Cf} {L G G' : List Ow} {a b e : Expr} {pos : Pos} {f f1 f2 : Rho → Res D} {k : Nat}
def keysD : List D → Option (List Key)
  | [] => some []
  | d :: ds => match keyD d, keysD ds with
    | some k, some ks => some (k :: ks)
    | _, _ => none
def keyT : D → Option (List Key)
  | .tup ds => keysD ds
  | _ => none
def tupOf (ks : List Key) : D := .tup (ks.map keyOf)
theorem keys_v {K : PySem.W.Frag} {cm : CM} {S : Hp} : ∀ {vs : List V} {ds : List D} {ks : List Key}, RpA K cm S vs ds → keysD ds = some ks → vs = ks.map kV
  | _, [], ks, h, q => by cases h; cases q; rfl
  | _, d :: ds, ks, h, q => by
    cases h with | @cons v vs _ _ hd hr =>
    unfold keysD at q
    split at q
    · rename_i k ks' h1 h2
      cases q
      rw [List.map_cons, ← keys_v hr h2, key_v (H := S) (.inl hd) h1]
    · cases q
theorem key_rp {K : PySem.W.Frag} {cm : CM} {S : Hp} : ∀ ks : List Key, RpA K cm S (ks.map kV) (ks.map keyOf)
  | [] => .nil
  | k :: ks => .cons (by cases k with | inl i => exact .int i | inr z => exact .str z) (key_rp ks)
theorem keyT_v {K : PySem.W.Frag} {cm : CM} {S H : Hp} {v : V} {d : D} {ks : List Key} (h : RpB K cm S H v d) (e : Ex S H) (q : keyT d = some ks) : ∃ p, v = .ref p ∧ H p = some (.tup (ks.map kV)) := by
  cases d with
  | tup ds =>
    obtain ⟨p, xs, rfl, _, r, hp⟩ := h.tup e
    have := keys_v r q
    subst this
    exact ⟨p, rfl, e _ _ hp⟩
  | _ => cases q
/-- a tuple of the heap becomes one that stays -/
theorem Fwd.tup {S H : Hp} (e : Ex S H) {q : Addr} {xs : List V} (h : H q = some (.tup xs)) : ∃ S', Fwd S H S' H ∧ S' q = some (.tup xs) := by
  cases hs : S q with
  | some o =>
    have := e _ _ hs
    rw [h] at this
    cases this
    exact ⟨S, Fwd.refl e, hs⟩
  | none =>
    refine ⟨upd S q (.tup xs), ⟨Ex.new hs, Ex.refl, fun a u ha => ?_, fun a u ha m => ?_⟩, upd_same⟩
    · by_cases hh : a = q
      · subst hh; rw [upd_same] at ha; rw [h]; exact ha
      · rw [upd_ne hh] at ha; exact e a u ha
    · by_cases hh : a = q
      · subst hh; exact .inr ⟨xs, h⟩
      · rw [upd_ne hh, m] at ha; cases ha
theorem Fwd.tups {H : Hp} : ∀ {S : Hp} {kvs : List (List Key × V)} {bs : List Addr} {K : PySem.W.Frag} {cm : CM}, Ex S H → IsKeys H kvs bs → ∃ S', Fwd S H S' H ∧ RpA K cm S' (bs.map V.ref) (kvs.map fun p => tupOf p.1)
  | S, [], [], _, _, e, _ => ⟨S, Fwd.refl e, .nil⟩
  | S, [], _ :: _, _, _, e, h => nomatch h
  | S, _ :: _, [], _, _, e, h => nomatch h
  | S, p :: kvs, b :: bs, K, cm, e, h => by
    cases h with
    | cons h1 h2 =>
      obtain ⟨S1, f1, g1⟩ := Fwd.tup e h1
      obtain ⟨S2, f2, g2⟩ := Fwd.tups (K := K) (cm := cm) f1.sub h2
      exact ⟨S2, f1.trans f2, .cons (.tup (f2.s _ _ g1) (key_rp _)) g2⟩
def listT : D → Res D
  | .dt ks _ => .ok (.lst (ks.map tupOf))
  | _ => .bad
abbrev rListT : List V → Hp → VK → Prop := fun xs H Q => ∃ d kvs, xs = [V.ref d] ∧ Rd H d (.dT kvs) ∧ ∀ p bs, H p = none → IsKeys H kvs bs → Q (.ref p) (upd H p (.lst (bs.map V.ref)))
theorem cs_listT : CallS c (mO c) rListT [true] (g1 listT) := by
  intro σ S H vs ds Q ex m p
  obtain ⟨v, d, rfl, rfl, h⟩ := m.one
  replace p : PostG c σ S H (listT d) (fun a S' H' => ∀ b, mO c H S' H' b a → Q b H') := p
  cases d with
  | dt ks vs =>
    obtain ⟨q, kvs, rfl, h1, rfl, h3⟩ := RpB.dt h ex
    refine ⟨q, kvs, rfl, h1, fun q bs hq hk => ?_⟩
    obtain ⟨S', fw, r⟩ := Fwd.tups (K := c.K) (cm := c.cm) ex hk
    have e : (kvs.map (·.1)).map tupOf = kvs.map fun p => tupOf p.1 := by rw [List.map_map]; rfl
    exact PostG.kept (p.mono fw) fw.sub hq (.lst (by rw [e]; exact r))
  | _ => exact p.elim
def ownT (i : Nat) (r : Rho) : Res (List (List Key) × List D) := match r[i]? with
  | some (some (.dt ks vs)) => .ok (ks, vs)
  | _ => .bad
def asT (d : D) : Res (List Key) := match keyT d with
  | some k => .ok k
  | none => .bad
noncomputable def putT (i : Nat) (fk f : Rho → Res D) : Rho → SR := fun r => liftS r (f r) fun d => liftS r (ownT i r) fun o => liftS r (fk r) fun k => liftS r (asT k) fun x => guardS (o.1.length < sizeLine) (.nx (r.set i (some (.dt (putV o.1 o.2 x d).1 (putV o.1 o.2 x d).2))))
theorem ds_putT (i : Nat) {x : Str} {pn p' : Pos} {ix : Expr} {fk : Rho → Res D} (hg : Gok c G) (hr : Room k X.A) (kk : kd G i = .o) (ho : PE X (.Name x pn) (tVar i)) (hi : PE X ix (tV c G fk)) (he : PE X e (tV c G f))
    (hs : swapsWith e (some (.Subscript (.Name x pn) ix p')) pos.line X.env = pure false := by rfl) : PS X (.Assign [.Subscript (.Name x pn) ix p'] e pos) (sD c L G G (putT i fk f)) :=
  ps_imp (ps_dput (by have := hr.units; omega) ho hi he hs) fun E σ H ⟨S0, H0, S, r, ok, p⟩ => st_seq hg ok p fun d v S1 H1 w1 o1 m1 p1 => by
    cases hK : ownT i r with
    | err n ns vs => exfalso; unfold ownT at hK; split at hK <;> cases hK
    | bad => rw [hK] at p1; exact p1.elim
    | ok o =>
      rw [hK] at p1
      unfold ownT at hK
      split at hK
      · rename_i ks vs hd
        cases hK
        obtain ⟨q, ho, s1, s2, s3, s4, s5⟩ := o1.own kk hd
        cases s5 with
        | @dt kvs _ _ hks hvs =>
          subst hks
          refine ⟨.ref q, s1, st_seq hg o1 p1 fun kd' kv S2 H2 w2 o2 m2 p2 => ?_⟩
          unfold asT at p2
          split at p2
          · rename_i xk hx
            have hxk : keyT kd' = some xk := hx
            obtain ⟨hl, p3⟩ := p2.gd
            have hq2 : H2 q = some (.dT kvs) := w2.h _ _ s2
            obtain ⟨b, rfl, hb⟩ := keyT_v (H := H2) (.inl m2) o2.ex hxk
            have pr := put_rp (k := xk) (m1.mono w2.s) (hvs.mono w2.s)
            have hl' : kvs.length < sizeLine := by simpa using hl
            refine ⟨q, _, rfl, DPut.t hq2 hb hl', p3 σ S2 _ (o2.mut kk hd s1 (.dt pr.1 pr.2))⟩
          · exact p2.elim
      · cases hK
def dT0 : Rho → Res D := fun _ => .ok (.dt [] [])
theorem de_dnewT : PE X (.Dict [] [] pos) (tO c G dT0) := pe_imp pe_dnewT fun σ H Q ⟨S0, H0, S, r, ok, p⟩ => fun q hq => PostG.kept p ok.ex hq (.dt rfl .nil)
def itemsK : D → Res (List D)
  | .dt ks _ => .ok (ks.map tupOf)
  | .dk ks _ => .ok (ks.map keyOf)
  | _ => .bad
variable {tg : Expr}
end
end Dx
end S_DxI
section S_DxJ
set_option Elab.async false
set_option linter.all false
set_option maxRecDepth 100000
set_option maxHeartbeats 2000000
namespace Dx
open PySem L2 ItX PyProof.Rows
/-- a def of the text, whatever its defaults are -/
structure FunE (K : PySem.W.Frag) (x qual : Str) (st : Stmt) (f : Addr) (fd : FuncData) : Prop where
  ex : ∃ (oc : Value) (od : Option Addr) (dV kV doc pm : Value) (an : Option Addr) (cdv ct : Value) (osl : Array (Option Value)),
    fd = PySem.W.fnOf x qual (defArgs st) (defBody st) (defScope st) dV kV doc pm an cdv ct ∧ K.lookup f = some ⟨oc, od, .func fd, osl⟩ ∧ PySem.W.codeIn K cdv qual = true
  kp : PySem.W.keepIn K (.ref f) = true
section
variable {P : Program} {w : World} {K : PySem.W.Frag} {mg : Str → Option Value} {base : Heap} {cm : CM}
theorem FunE.okX {x qual : Str} {st : Stmt} {f : Addr} {fd : FuncData} {N ps : List Str} {k : Nat} {sp : Sp} (F : FunE K x qual st f fd) (S : FnScope N ps (defScope st)) (len : ∀ vs H Q E, sp vs H Q E → vs.length = ps.length)
    (hbody : ∀ (cdv : Value) (A : Around) (outer : List Env) (s : Shared) (H : Hp) (vs : List V) (Q : VK) (E : XK), Room k (A.deeper (envOfC qual (defScope st) s.heap.objs.size f cdv)) → sp vs H Q E →
      ∃ t, PSs (cxOf (L2.CX P w) P w K mg base N qual (defScope st) f cdv A outer s H E) (defBody st) t ∧ t { nx := fun _ H' => Q .non H', rt := Q } (start N vs) H) : FnOk P w K mg base (L2.CX P w) (k + 1) f fd ps sp := by
  obtain ⟨oc, od, dV, kV, doc, pm, an, cdv, ct, osl, rfl, lk, hcd⟩ := F.ex
  exact fn_of lk hcd S len fun A outer s H vs Q E hr hsp => hbody cdv A outer s H vs Q E hr hsp
end
section
variable {X : Cx} {c : Cf} {L G G' : List Ow} {f f1 : Rho → Res D} {e o : Expr} {es : List Expr} {pos apos p : Pos}
variable {k : Nat} {fa : Addr} {fd : FuncData} {ps : List Str} {ms : List Bool} {rm : Bool} {F : List D → Res D}
variable {tg : Expr}
/-- a, b, .. = a list -/
def tgTL (n : Nat) (u : List D → Rho → Res Rho) : D → Rho → Res Rho := fun d r => match d with
  | .lst ds => if ds.length = n then u ds r else .bad
  | _ => .bad
theorem dg_lst {es : List Expr} {k n : Nat} {ks : List Nat} {u : List D → Rho → Res Rho} (hc : X.calm = true) (h : PGs X es (gDs c G G' ks u)) (hn : (assignEach es X.env).length = n := by rfl) (hst : (assignEach es X.env).findIdx? (·.1) = none := by rfl) (hK : c.K = X.K := by rfl) :
    PG X (.Tuple es k pos) (gD c G G' ks (tgTL n u)) := pg_imp (pg_lst hc h hn hst) fun v σ H Q ⟨S0, H0, S, r, d, ok, hv, p⟩ => by
  unfold tgTL at p
  cases hv with
  | @lst a xs ds q rr =>
    dsimp only at p
    by_cases hl : ds.length = n
    · rw [if_pos hl] at p
      exact ⟨a, xs, rfl, by rw [← hK]; exact .inl (.inl (ok.ex _ _ q)), by rw [rr.length]; exact hl, S0, H0, S, r, ds, ok, rr, p⟩
    · rw [if_neg hl] at p; exact p.elim
  | _ => exact p.elim
end
end Dx
end S_DxJ
section S_DxH
set_option Elab.async false
set_option linter.all false
set_option maxRecDepth 100000
set_option maxHeartbeats 4000000
namespace Dx
open PySem L2 PyProof.Rows Srt SrtO
end Dx
end S_DxH
section S_DxL
set_option Elab.async false
set_option linter.all false
set_option maxRecDepth 100000
set_option maxHeartbeats 4000000
namespace Dx
open PySem L2
end Dx
end S_DxL
section S_DxK
set_option Elab.async false
set_option linter.all false
set_option maxRecDepth 100000
set_option maxHeartbeats 2000000
namespace Dx
open PySem L2 PyProof.Rows ClX
end Dx
namespace Dx
open PySem L2
end Dx
end S_DxK
section S_DxAA
set_option Elab.async false
set_option linter.all false
set_option maxRecDepth 100000
set_option maxHeartbeats 2000000
namespace Dx
open PySem L2
section
variable {X : Cx} {c : Cf} {L G G' : List Ow} {f f1 f2 : Rho → Res D} {a b e : Expr} {pos : Pos} {tg : Expr}
def insI (p : Int) : List Int → List Int
  | [] => [p]
  | x :: xs => if x < p then x :: insI p xs else p :: x :: xs
def sortI : List Int → List Int
  | [] => []
  | x :: xs => insI x (sortI xs)
def sortID : D → Res D
  | .lst ds => match allInt ds with
    | some is => .ok (.lst ((sortI is).map D.int))
    | none => .bad
  | _ => .bad
end
section
variable {Q : D → Prop} {E : Str → List Str → List D → Prop} {i j s : Int}
theorem allInt_map : ∀ ns : List Int, allInt (ns.map D.int) = some ns
  | [] => rfl
  | n :: ns => by rw [List.map_cons, allInt, allInt_map ns]
theorem rs_sortI {ns : List Int} (q : Q (.lst ((sortI ns).map D.int))) : Rs (g1 sortID [.lst (ns.map D.int)]) Q E := by
  show Rs (match allInt (ns.map D.int) with | some is => Res.ok (.lst ((sortI is).map D.int)) | none => .bad) Q E
  rw [allInt_map]; exact q
theorem rs_g2 {g : Int → Int → Int} (q : Q (.int (g i j))) : Rs (g2 (intsD g) [.int i, .int j]) Q E := q
theorem max2_eq (i j : Int) : max2 i j = max i j := by unfold max2; omega
theorem rs_sum {ns : List Int} (q : Q (.int ns.sum)) : Rs (g1 sumD [.lst (ns.map D.int)]) Q E := by
  show Rs (match allInt (ns.map D.int) with | some is => Res.ok (.int is.sum) | none => .bad) Q E
  rw [allInt_map]; exact q
end
end Dx
end S_DxAA
section S_DxAB
set_option Elab.async false
set_option linter.all false
set_option maxRecDepth 100000
set_option maxHeartbeats 4000000
namespace Dx
open PySem L2 PyProof.Rows Srt SrtO
end Dx
end S_DxAB
section S_DxAC
set_option Elab.async false
set_option linter.all false
set_option maxRecDepth 100000
set_option maxHeartbeats 4000000
namespace Dx
open PySem L2
section
variable {X : Cx} {c : Cf} {L G G' G'' : List Ow} {f f1 f2 : Rho → Res D} {a b e e2 e3 : Expr} {pos : Pos} {tg : Expr} {k : Nat}
def getE (d k e : D) : Res D := match d with
  | .dk ks vs => match keyD k with
    | some x => .ok ((getK ks vs x).getD e)
    | none => .bad
  | .dt ks vs => match keyT k with
    | some x => .ok ((getK ks vs x).getD e)
    | none => .bad
  | _ => .bad
def getZ (d k : D) : Res D := match d with
  | .dk ks vs => match keyD k with
    | some x => match getK ks vs x with
      | some d => .ok d
      | none => .bad
    | none => .bad
  | .dt ks vs => match keyT k with
    | some x => match getK ks vs x with
      | some d => .ok d
      | none => .bad
    | none => .bad
  | _ => .bad
theorem de_getZ (hr : Room k X.A) (ha : PE X a (tR c G f1)) (hb : PE X b (tR c G f2)) (hs : NoSl b) : PE X (.Subscript a b pos) (tV c G (dOp getZ f1 f2)) :=
  pe_imp (pe_dget (by have := hr.units; omega) ha hb hs) fun σ H Q ⟨S0, H0, S, r, ok, p⟩ => rd_seq ok p fun d v S1 H1 w1 o1 m1 p1 => rd_seq o1 p1 fun e u S2 H2 w2 o2 m2 p2 => by
    have m1 := RpB.mono m1 w2.s w2.h
    unfold getZ at p2
    split at p2
    · rename_i ks vs
      split at p2
      · rename_i x hx
        split at p2
        · rename_i z hz
          obtain ⟨q, kvs, rfl, h1, rfl, h3⟩ := RpB.dk m1 o2.ex
          obtain ⟨w, g1, g2⟩ := (get_rp x h3).1 z hz
          refine ⟨q, w, rfl, ?_, p2.go o2.ex _ g2⟩
          rw [key_v m2 hx, ← g1]
          exact .inl ⟨_, _, h1, rfl, rfl⟩
        · exact p2.elim
      · exact p2.elim
    · rename_i ks vs
      split at p2
      · rename_i x hx
        split at p2
        · rename_i z hz
          obtain ⟨q, kvs, rfl, h1, rfl, h3⟩ := RpB.dt m1 o2.ex
          obtain ⟨w, g1, g2⟩ := (get_rp x h3).1 z hz
          obtain ⟨b, rfl, hb⟩ := keyT_v m2 o2.ex hx
          exact ⟨q, w, rfl, .inr ⟨_, x, b, h1, rfl, hb, g1.symm⟩, p2.go o2.ex _ g2⟩
        · exact p2.elim
      · exact p2.elim
    · exact p2.elim
abbrev FP := (Rho → Res D) × (Rho → Res D)
def dPairs : List FP → Rho → Res (List (D × D))
  | [], _ => .ok []
  | p :: ps, r => (p.1 r).bind fun k => (p.2 r).bind fun d => (dPairs ps r).bind fun kvs => .ok ((k, d) :: kvs)
def RpPs (c : Cf) (S : Hp) : List (V × V) → List (D × D) → Prop
  | [], [] => True
  | v :: vs, d :: ds => Rp c.K c.cm S v.1 d.1 ∧ Rp c.K c.cm S v.2 d.2 ∧ RpPs c S vs ds
  | _, _ => False
theorem tp_rd : ∀ (ps : List FP) {σ : St} {S0 H0 S H : Hp} {r : Rho} {Q : List (V × V) → Hp → Prop}, EnvOk c S0 H0 G S H σ r → PostG c σ S H (dPairs ps r) (fun kvs S' H' => Fwd S H S' H' → ∀ vs, RpPs c S' vs kvs → Q vs H') →
    tPairs (ps.map fun p => (tV c G p.1, tV c G p.2)) σ H Q
  | [], σ, S0, H0, S, H, r, Q, ok, p => p S H (Fwd.refl ok.ex) (Fwd.refl ok.ex) [] trivial
  | p :: ps, σ, S0, H0, S, H, r, Q, ok, q => by
    show rd c G p.1 (mV c) σ H fun x H1 => rd c G p.2 (mV c) σ H1 fun y H2 => tPairs (ps.map fun p => (tV c G p.1, tV c G p.2)) σ H2 fun z H3 => Q ((x, y) :: z) H3
    have q : PostG c σ S H ((p.1 r).bind fun k => (p.2 r).bind fun d => (dPairs ps r).bind fun kvs => .ok ((k, d) :: kvs)) (fun kvs S' H' => Fwd S H S' H' → ∀ vs, RpPs c S' vs kvs → Q vs H') := q
    refine rd_seq ok q fun kd kv S1 H1 w1 o1 m1 q1 => rd_seq o1 q1 fun d v S2 H2 w2 o2 m2 q2 => tp_rd ps o2 (q2.unbind.imp fun kvs S3 H3 w3 h3 _ vs hv => ?_)
    exact h3 S3 H3 (Fwd.refl w3.sub) ((w1.trans w2).trans w3) _ ⟨Rp.mono (w2.trans w3).s m1, Rp.mono w3.s m2, hv⟩
def mergeD : List Key → List D → List (D × D) → Res D
  | ks, vs, [] => .ok (.dk ks vs)
  | ks, vs, (k, d) :: kvs => match keyD k with
    | some x => mergeD (putV ks vs x d).1 (putV ks vs x d).2 kvs
    | none => .bad
theorem merge_rp {S : Hp} : ∀ {vs : List (V × V)} {ds : List (D × D)} {kvs : List (Key × V)} {vals : List D} {o : D}, RpPs c S vs ds → RpA c.K c.cm S (kvs.map (·.2)) vals → mergeD (kvs.map (·.1)) vals ds = .ok o →
    ∃ more : List (Key × V), vs = more.map (fun kv => (kV kv.1, kv.2)) ∧ RpO c.K c.cm S (.dK (mergeK kvs more)) o
  | [], [], kvs, vals, o, _, h, e => by
    cases e
    exact ⟨[], rfl, .dk rfl h⟩
  | v :: vs, (kd, d) :: ds, kvs, vals, o, ⟨h1, h2, h3⟩, h, e => by
    unfold mergeD at e
    split at e
    · rename_i x hx
      have hv : v.1 = kV x := key_v (H := S) (.inl h1) hx
      have pr := put_rp (k := x) h2 h
      rw [pr.1] at e
      obtain ⟨more, m1, m2⟩ := merge_rp h3 pr.2 e
      exact ⟨(x, v.2) :: more, by rw [m1, List.map_cons, ← hv], m2⟩
    · cases e
  | [], _ :: _, _, _, _, h, _, _ => h.elim
  | _ :: _, [], _, _, _, h, _, _ => h.elim
def dDisp (ps : List FP) : Rho → Res D := fun r => (dPairs ps r).bind fun kvs => mergeD [] [] kvs
theorem mergeD_ne : ∀ (kvs : List (D × D)) (ks : List Key) (vs : List D) {n : Str} {ns : List Str} {ws : List D}, mergeD ks vs kvs ≠ .err n ns ws
  | [], _, _, _, _, _ => by unfold mergeD; intro h; cases h
  | (k, d) :: kvs, ks, vs, n, ns, ws => by
    unfold mergeD
    split
    · exact mergeD_ne kvs _ _
    · intro h; cases h
theorem RpPs.len {S : Hp} : ∀ {vs : List (V × V)} {ds : List (D × D)}, RpPs c S vs ds → vs.length = ds.length
  | [], [], _ => rfl
  | v :: vs, d :: ds, h => by simp [RpPs.len h.2.2]
  | [], _ :: _, h => h.elim
  | _ :: _, [], h => h.elim
theorem dPairs_len : ∀ {ps : List FP} {r : Rho} {kvs : List (D × D)}, dPairs ps r = .ok kvs → kvs.length = ps.length
  | [], r, kvs, h => by cases h; rfl
  | p :: ps, r, kvs, h => by
    unfold dPairs at h
    cases h1 : p.1 r with
    | ok a =>
      rw [h1] at h
      have h : ((p.2 r).bind fun d => (dPairs ps r).bind fun kvs => Res.ok ((a, d) :: kvs)) = .ok kvs := h
      cases h2 : p.2 r with
      | ok b =>
        rw [h2] at h
        have h : ((dPairs ps r).bind fun kvs => Res.ok ((a, b) :: kvs)) = .ok kvs := h
        cases h3 : dPairs ps r with
        | ok z => rw [h3] at h; cases h; simp [dPairs_len h3]
        | err _ _ _ => rw [h3] at h; cases h
        | bad => rw [h3] at h; cases h
      | err _ _ _ => rw [h2] at h; cases h
      | bad => rw [h2] at h; cases h
    | err _ _ _ => rw [h1] at h; cases h
    | bad => rw [h1] at h; cases h
theorem de_disp {keys : List (Option Expr)} {values : List Expr} {ps : List FP} (h : PPs X pos keys values (ps.map fun p => (tV c G p.1, tV c G p.2))) (hall : keys.all (·.isSome) = true) (hl : keys.length = values.length) (h0 : keys ≠ []) (h15 : keys.length ≤ 15) (hp : ps.length = keys.length) :
    PE X (.Dict keys values pos) (tO c G (dDisp ps)) := pe_imp (pe_disp h hall hl h0 h15) fun σ H Q ⟨S0, H0, S, r, ok, p⟩ => fun q hq => by
  have w0 : Fwd S H S (upd H q (.dK [])) := Fwd.heap ok.ex hq
  have p' : PostG c σ S H ((dPairs ps r).bind fun kvs => mergeD [] [] kvs) (fun a S' H' => ∀ b, mO c H S' H' b a → Q b H') := p
  have pm : PostG c σ S H (dPairs ps r) fun kvs S' H' => kvs.length = ps.length ∧ PostG c σ S H (mergeD [] [] kvs) (fun a S' H' => ∀ b, mO c H S' H' b a → Q b H') := by
    cases hd : dPairs ps r with
    | ok kvs =>
      rw [hd] at p'
      exact fun S' H' w => ⟨dPairs_len hd, p'⟩
    | err _ _ _ => rw [hd] at p'; exact p'
    | bad => rw [hd] at p'; exact p'.elim
  refine tp_rd ps (ok.go w0) ((pm.mono w0).imp fun kvs S1 H1 w1 ⟨hlen, h1⟩ w2 vs hv => ?_)
  have wt := w0.trans w1
  have hq2 : H1 q = some (.dK []) := w1.h _ _ upd_same
  have nq : S1 q = none := by
    cases z : S1 q with
    | none => rfl
    | some o =>
      obtain ⟨xs, y⟩ := (w1.new q o z (ok.ex.nn hq)).not upd_same
      cases y
  cases hm : mergeD [] [] kvs with
  | ok o =>
    rw [hm] at h1
    obtain ⟨more, e1, e2⟩ := merge_rp (kvs := []) hv .nil hm
    refine ⟨hq2, more, e1, ?_, ?_⟩
    · have := hv.len
      rw [e1, List.length_map] at this
      omega
    · exact h1 S1 _ ⟨wt.s, wt.h.put hq, wt.sub.put nq, wt.new⟩ _ ⟨q, _, rfl, hq, nq, upd_same, e2⟩
  | err _ _ _ => exact absurd hm (mergeD_ne _ _ _)
  | bad => rw [hm] at h1; exact h1.elim
def allBl : List D → Option (List Bool)
  | [] => some []
  | .bl b :: ds => match allBl ds with
    | some bs => some (b :: bs)
    | none => none
  | _ => none
def allD : D → Res D
  | .lst ds => match allBl ds with
    | some bs => .ok (.bl (bs.all id))
    | none => .bad
  | _ => .bad
def inKt (neg : Bool) (d e : D) : Res D := match e with
  | .kt ds => match inFlat d ds with
    | some b => .ok (.bl (if neg then !b else b))
    | none => .bad
  | _ => .bad
def parF3 (i j l : Nat) (f1 f2 f3 : Rho → Res D) : Rho → SR := fun r => liftS r (dCons f1 (dCons f2 (dCons f3 dNil)) r) fun ds => match ds with
  | [d, e, g] => .nx (((r.set i (some d)).set j (some e)).set l (some g))
  | _ => .bad
end
section
variable {Q : D → Prop} {E : Str → List Str → List D → Prop} {r : Rho} {f f1 f2 f3 : Rho → Res D} {d k e : D}
theorem allBl_map : ∀ bs : List Bool, allBl (bs.map D.bl) = some bs
  | [] => rfl
  | b :: bs => by rw [List.map_cons, allBl, allBl_map bs]
theorem rs_all {bs : List Bool} (q : Q (.bl (bs.all id))) : Rs (g1 allD [.lst (bs.map D.bl)]) Q E := by
  show Rs (match allBl (bs.map D.bl) with | some bs => Res.ok (.bl (bs.all id)) | none => .bad) Q E
  rw [allBl_map]; exact q
end
section
variable {N B C : Rho → Prop} {R : D → Prop} {E : Rho → Str → List Str → List D → Prop} {r : Rho} {f f1 f2 f3 : Rho → Res D} {i j l : Nat}
theorem ss_par3 (h : Rs (f1 r) (fun d => Rs (f2 r) (fun e => Rs (f3 r) (fun g => N (((r.set i (some d)).set j (some e)).set l (some g))) (E r)) (E r)) (E r)) : Ss (parF3 i j l f1 f2 f3 r) N R B C E :=
  ss_lift (rs_cons (h.impE (fun d q => rs_cons (q.impE (fun e q => rs_cons (q.impE (fun g q => rs_nil q) fun _ _ _ z => z)) fun _ _ _ z => z)) fun _ _ _ z => z))
end
end Dx
end S_DxAC
section S_DxAD
set_option Elab.async false
set_option linter.all false
set_option maxRecDepth 100000
set_option maxHeartbeats 2000000
namespace Dx
open PySem L2
section
variable {X : Cx} {c : Cf} {G : List Ow} {pos : Pos}
theorem de_strL {x y : Str} {j : Nat} (h : x = y) : PE X (.Constant (.str x) j pos) (tV c G (dC (.str y))) := by subst h; exact de_str
theorem rp_lit {K : PySem.W.Frag} {cm : CM} {S : Hp} {x y : Str} (h : x = y) : Rp K cm S (.str x) (.str y) := by subst h; exact .str _
end
theorem log_small {i : Int} (h : 0 ≤ i) (h1 : i < 1000000000000) : i.natAbs.log2 < 1920 := by
  by_cases h0 : i.natAbs = 0
  · rw [h0]; decide
  · have : i.natAbs < 2 ^ 40 := by omega
    have := (Nat.log2_lt h0).mpr this
    omega
theorem num_ST {i : Int} (h : 0 ≤ i) : (toString i : Str) = Sg (TL.numL i.toNat) := by
  have e : i = ((i.toNat : Nat) : Int) := by omega
  refine TL.ext_tl ?_
  have := TL.tl_num i.toNat
  rw [← e] at this
  exact this
theorem lt_one {a b : Nat} : ([a] < [b]) ↔ a < b := by
  constructor
  · intro h
    cases h with
    | rel h => exact h
    | cons h => cases h
  · intro h; exact List.Lex.rel h
section
variable {Q : D → Prop} {E : Str → List Str → List D → Prop} {i j : Int} {a b l : List Nat} {r : Rho} {f : Rho → Res D} {g : Str → Rho → Res D} {acc : List Nat} {d : D}
theorem rs_strI (h : 0 ≤ i ∧ i < 1000000000000) (q : Q (.str (Sg (TL.numL i.toNat)))) : Rs (g1 strD [.int i]) Q E :=
  rs_guard (log_small h.1 h.2) (by show Q (.str (toString i)); rw [num_ST h.1]; exact q)
theorem rs_fmtI (h : 0 ≤ i ∧ i < 1000000000000) (q : Q (.str (Sg (TL.numL i.toNat)))) : Rs (fmtD (.int i)) Q E :=
  rs_guard (log_small h.1 h.2) (by show Q (.str (toString i)); rw [num_ST h.1]; exact q)
theorem rs_fmtS (h : a.length ≤ sizeLine) (q : Q (.str (Sg a))) : Rs (fmtD (.str (Sg a))) Q E := rs_guard (by rw [ST_len]; exact h) q
theorem rs_jnil (q : Q (.str (Sg acc))) : Rs (dJnil (Sg acc) r) Q E := q
theorem rs_jcons (h : Rs (f r) (fun d => Rs (asS d) (fun y => ∃ l, y = Sg l ∧ acc.length + l.length ≤ 100000 ∧ Rs (g (Sg (acc ++ l)) r) Q E) E) E) : Rs (dJcons f g (Sg acc) r) Q E :=
  Rs.bind (h.impE (fun d q => Rs.bind (q.impE (fun y q => by
    obtain ⟨l, rfl, h1, h2⟩ := q
    rw [ST_app]
    exact rs_guard (by rw [ST_len, List.length_append]; exact Nat.le_trans h1 sz5) h2) fun _ _ _ z => z)) fun _ _ _ z => z)
theorem rs_asSJ {l : List Nat} (h : acc.length + l.length ≤ 100000) (k : Rs (g (Sg (acc ++ l)) r) Q E) : Rs (asS (.str (Sg l))) (fun y => ∃ l, y = Sg l ∧ acc.length + l.length ≤ 100000 ∧ Rs (g (Sg (acc ++ l)) r) Q E) E := ⟨l, rfl, h, k⟩
theorem rs_dJoin (h : Rs (g (Sg []) r) Q E) : Rs (dJoin g r) Q E := h
theorem rs_ord {n : Nat} (q : Q (.int n)) : Rs (g1 ordX [.str (Sg [n])]) Q E := rs_guard (by rw [ST_len]; rfl) q
theorem rs_leS {m n : Nat} (q : Q (.bl (decide (m ≤ n)))) : Rs (leD (.str (Sg [m])) (.str (Sg [n]))) Q E := by
  show Q (.bl (!decide ([n] < [m])))
  rw [show (!decide ([n] < [m])) = decide (m ≤ n) from by
    rw [Bool.eq_iff_iff]
    simp only [Bool.not_eq_true', decide_eq_false_iff_not, decide_eq_true_eq, lt_one]
    omega]
  exact q
theorem inFlat_ints (i : Int) (ns : List Int) : inFlat (.int i) (ns.map D.int) = some (decide (i ∈ ns)) := by
  have e : flatDs (ns.map D.int) = some (ns.map V.int) := by
    induction ns with
    | nil => rfl
    | cons n ns ih => rw [List.map_cons, flatDs, ih]; rfl
  unfold inFlat
  rw [e]
  show some (inV (V.int i) (ns.map V.int)) = _
  congr 1
  induction ns with
  | nil => rfl
  | cons n ns ih =>
    have e : flatDs (ns.map D.int) = some (ns.map V.int) := by
      clear ih e
      induction ns with
      | nil => rfl
      | cons n ns ih => rw [List.map_cons, flatDs, ih]; rfl
    have ih := ih e
    unfold inV at ih ⊢
    rw [List.map_cons, List.any_cons, ih]
    show (decide (n = i) || decide (i ∈ ns)) = _
    by_cases h : n = i
    · subst h; simp
    · have h' : ¬ i = n := fun z => h z.symm
      simp [h, h']
theorem rs_inKI {neg : Bool} {ns : List Int} (q : Q (.bl (if neg then !decide (i ∈ ns) else decide (i ∈ ns)))) : Rs (inKt neg (.int i) (.kt (ns.map D.int))) Q E := by
  show Rs (match inFlat (.int i) (ns.map D.int) with | some b => Res.ok (D.bl (if neg then !b else b)) | none => .bad) Q E
  rw [inFlat_ints]; exact q
theorem rs_inI {ns : List Int} (q : Q (.bl (decide (i ∈ ns)))) : Rs (inD (.int i) (.lst (ns.map D.int))) Q E := by
  show Rs ((inLst (.int i) (ns.map D.int)).bind _) Q E
  unfold inLst
  rw [inFlat_ints]; exact q
theorem rs_ninI {ns : List Int} (q : Q (.bl (!decide (i ∈ ns)))) : Rs (ninD (.int i) (.lst (ns.map D.int))) Q E := by
  show Rs ((inLst (.int i) (ns.map D.int)).bind _) Q E
  unfold inLst
  rw [inFlat_ints]; exact q
end
theorem at_pos {α : Type} {xs : List α} {j : Int} {x : α} (h0 : 0 ≤ j) (h : xs[j.toNat]? = some x) : atI xs j = some x := by
  obtain ⟨n, rfl⟩ := Int.eq_ofNat_of_zero_le h0
  exact atI_nat h
abbrev TD := List (List Nat × D)
def kS (a : List Nat) : Key := .inr (Sg a)
theorem kS_inj {a b : List Nat} : kS a = kS b ↔ a = b := ⟨fun h => by injection h with h; exact ST_inj.mp h, fun h => by rw [h]⟩
def dkT (T : TD) : D := .dk (T.map fun p => kS p.1) (T.map (·.2))
def lk (T : TD) (a : List Nat) : Option D := (T.find? fun p => decide (p.1 = a)).map (·.2)
def setT : TD → List Nat → D → TD
  | [], a, d => [(a, d)]
  | p :: T, a, d => if p.1 = a then (a, d) :: T else p :: setT T a d
def NdK (T : TD) : Prop := (T.map (·.1)).Nodup
theorem lk_cons (p : List Nat × D) (T : TD) (a : List Nat) : lk (p :: T) a = if p.1 = a then some p.2 else lk T a := by
  unfold lk
  rw [List.find?_cons]
  by_cases h : p.1 = a
  · rw [if_pos h, decide_eq_true h]; rfl
  · rw [if_neg h, decide_eq_false h]
theorem getK_T (T : TD) (a : List Nat) : getK (T.map fun p => kS p.1) (T.map (·.2)) (kS a) = lk T a := by
  induction T with
  | nil => rfl
  | cons p T ih =>
    rw [List.map_cons, List.map_cons, getK, ih, lk_cons]
    by_cases h : p.1 = a
    · rw [if_pos (kS_inj.mpr h), if_pos h]
    · rw [if_neg (fun z => h (kS_inj.mp z)), if_neg h]
theorem lk_isSome {T : TD} {a : List Nat} : (lk T a).isSome = decide (a ∈ T.map (·.1)) := by
  induction T with
  | nil => rfl
  | cons p T ih =>
    rw [lk_cons, List.map_cons]
    by_cases h : p.1 = a
    · rw [if_pos h]; simp [h]
    · have h' : ¬ a = p.1 := fun z => h z.symm
      rw [if_neg h, ih]; simp [h']
theorem lk_of {T : TD} (hn : NdK T) {a : List Nat} {d : D} (h : (a, d) ∈ T) : lk T a = some d := by
  induction T with
  | nil => cases h
  | cons p T ih =>
    obtain ⟨h1, h2⟩ := List.nodup_cons.mp hn
    rw [lk_cons]
    rcases List.mem_cons.mp h with e | h
    · rw [← e, if_pos rfl]
    · by_cases e : p.1 = a
      · exact absurd (List.mem_map.mpr ⟨_, h, e.symm⟩) h1
      · rw [if_neg e]; exact ih h2 h
theorem putV_T {T : TD} (hn : NdK T) (a : List Nat) (d : D) : putV (T.map fun p => kS p.1) (T.map (·.2)) (kS a) d = ((setT T a d).map fun p => kS p.1, (setT T a d).map (·.2)) := by
  unfold putV
  have hany : ((T.map fun p => kS p.1).any fun k => decide (k = kS a)) = decide (a ∈ T.map (·.1)) := by
    clear hn
    induction T with
    | nil => rfl
    | cons p T ih =>
      rw [List.map_cons, List.any_cons, ih, List.map_cons]
      by_cases h : p.1 = a
      · rw [decide_eq_true (kS_inj.mpr h)]; simp [h]
      · have h' : ¬ a = p.1 := fun z => h z.symm
        rw [decide_eq_false fun z => h (kS_inj.mp z)]; simp [h']
  rw [hany]
  by_cases hm : a ∈ T.map (·.1)
  · rw [if_pos (decide_eq_true hm)]
    have one : ∀ (T : TD), a ∉ T.map (·.1) → List.zipWith (fun k v => if k = kS a then d else v) (T.map fun p => kS p.1) (T.map (·.2)) = T.map (·.2) := by
      intro T
      induction T with
      | nil => intro _; rfl
      | cons p T ih =>
        intro h
        have h1 : p.1 ≠ a := fun e => h (by simp [e])
        rw [List.map_cons, List.map_cons, List.zipWith_cons_cons, if_neg (fun z => h1 (kS_inj.mp z)), ih fun z => h (by rw [List.map_cons]; exact List.mem_cons_of_mem _ z)]
    induction T with
    | nil => cases hm
    | cons p T ih =>
      obtain ⟨h1, h2⟩ := List.nodup_cons.mp hn
      rw [setT]
      by_cases e : p.1 = a
      · rw [if_pos e, List.map_cons, List.map_cons, List.zipWith_cons_cons, if_pos (kS_inj.mpr e), one T (e ▸ h1), e]
        rfl
      · have hm' : a ∈ T.map (·.1) := by
          rcases List.mem_cons.mp hm with z | z
          · exact absurd z.symm e
          · exact z
        have hany' : ((T.map fun p => kS p.1).any fun k => decide (k = kS a)) = decide (a ∈ T.map (·.1)) := by
          clear hany ih hm hm' hn h1 h2
          induction T with
          | nil => rfl
          | cons p T ih =>
            rw [List.map_cons, List.any_cons, ih, List.map_cons]
            by_cases h : p.1 = a
            · rw [decide_eq_true (kS_inj.mpr h)]; simp [h]
            · have h' : ¬ a = p.1 := fun z => h z.symm
              rw [decide_eq_false fun z => h (kS_inj.mp z)]; simp [h']
        have ih := ih h2 hany' hm'
        injection ih with i1 i2
        rw [if_neg e, List.map_cons, List.map_cons, List.zipWith_cons_cons, if_neg (fun z => e (kS_inj.mp z)), i2, List.map_cons, List.map_cons, ← i1]
  · rw [if_neg (by simpa using hm)]
    have : ∀ T : TD, a ∉ T.map (·.1) → setT T a d = T ++ [(a, d)] := by
      intro T
      induction T with
      | nil => intro _; rfl
      | cons p T ih =>
        intro h
        have h1 : p.1 ≠ a := fun e => h (by simp [e])
        rw [setT, if_neg h1, ih fun z => h (by rw [List.map_cons]; exact List.mem_cons_of_mem _ z)]
        rfl
    rw [this T hm, List.map_append, List.map_append]
    rfl
section
variable {Q : D → Prop} {E : Str → List Str → List D → Prop} {T : TD} {a : List Nat} {d e : D} {r : Rho}
theorem rs_getT (h : lk T a = some d) (q : Q d) : Rs (getZ (dkT T) (.str (Sg a))) Q E := by
  show Rs (match getK (T.map fun p => kS p.1) (T.map (·.2)) (kS a) with | some d => Res.ok d | none => .bad) Q E
  rw [getK_T, h]; exact q
theorem rs_inTk {neg : Bool} (q : Q (.bl (if neg then !decide (a ∈ T.map (·.1)) else decide (a ∈ T.map (·.1))))) : Rs (inK neg (.str (Sg a)) (dkT T)) Q E := by
  show Q (.bl (if neg then !(getK (T.map fun p => kS p.1) (T.map (·.2)) (kS a)).isSome else (getK (T.map fun p => kS p.1) (T.map (·.2)) (kS a)).isSome))
  rw [getK_T, lk_isSome]; exact q
theorem rs_getET (q : Q ((lk T a).getD e)) : Rs (getE (dkT T) (.str (Sg a)) e) Q E := by
  show Q ((getK (T.map fun p => kS p.1) (T.map (·.2)) (kS a)).getD e)
  rw [getK_T]; exact q
theorem rs_dD0 (q : Q (dkT [])) : Rs (dD0 r) Q E := q
theorem rs_listTk (q : Q (.lst (T.map fun p => .str (Sg p.1)))) : Rs (g1 listK [dkT T]) Q E := by
  show Q (.lst ((T.map fun p => kS p.1).map keyOf))
  rw [List.map_map]; exact q
theorem rs_lenTk (q : Q (.int T.length)) : Rs (g1 lenK [dkT T]) Q E := by
  show Q (.int (T.map fun p => kS p.1).length)
  rw [List.length_map]; exact q
theorem rs_itTk {Q : List D → Prop} (q : Q (T.map fun p => .str (Sg p.1))) : Rs (itemsK (dkT T)) Q E := by
  show Q ((T.map fun p => kS p.1).map keyOf)
  rw [List.map_map]; exact q
end
section
variable {Q : D → Prop} {E : Str → List Str → List D → Prop} {r : Rho} {fk fv : Rho → Res D} {ps : List FP}
theorem rs_disp (h : Rs (dPairs ps r) (fun kvs => Rs (mergeD [] [] kvs) Q E) E) : Rs (dDisp ps r) Q E := Rs.bind h
theorem rs_pnil {Q : List (D × D) → Prop} (q : Q []) : Rs (dPairs [] r) Q E := q
theorem rs_pcons {Q : List (D × D) → Prop} (h : Rs (fk r) (fun k => Rs (fv r) (fun d => Rs (dPairs ps r) (fun kvs => Q ((k, d) :: kvs)) E) E) E) : Rs (dPairs ((fk, fv) :: ps) r) Q E :=
  Rs.bind (h.impE (fun k q => Rs.bind (q.impE (fun d q => Rs.bind (q.impE (fun _ z => z) fun _ _ _ z => z)) fun _ _ _ z => z)) fun _ _ _ z => z)
end
section
variable {Q : D → Prop} {E : Str → List Str → List D → Prop} {r : Rho} {i : Nat} {n f : Str} {ns : List Str} {vs : List D} {d : D}
theorem rs_isX {isM : Str → Option Bool} {b : Bool} (h1 : r[i]? = some (some (.obj n ns vs))) (h2 : isM n = some b) (q : Q (.bl b)) : Rs (dIsX isM i r) Q E := by
  unfold dIsX
  rw [h1]
  dsimp only
  rw [h2]
  exact q
theorem rs_xf (h1 : r[i]? = some (some (.obj n ns vs))) (h2 : lookF ns vs f = some d) (q : Q d) : Rs (dXf i f r) Q E := by
  unfold dXf
  rw [h1]
  dsimp only
  rw [h2]
  exact q
end
theorem ss_putTk {N B C : Rho → Prop} {R : D → Prop} {E : Rho → Str → List Str → List D → Prop} {r : Rho} {f fk : Rho → Res D} {i : Nat} {T : TD} (hn : NdK T) (h1 : r[i]? = some (some (dkT T)))
    (h : Rs (f r) (fun d => Rs (fk r) (fun k => ∃ a, k = .str (Sg a) ∧ T.length < 100000 ∧ N (r.set i (some (dkT (setT T a d))))) (E r)) (E r)) : Ss (putF i fk f r) N R B C E :=
  ss_lift (h.impE (fun d q => by
    refine ss_lift (Rs.of (a := (T.map fun p => kS p.1, T.map (·.2))) (by unfold ownK; rw [h1]; rfl) (ss_lift (q.impE (fun k q => ?_) fun _ _ _ z => z)))
    obtain ⟨a, rfl, q3, q4⟩ := q
    refine ss_lift (Rs.of (a := kS a) rfl ?_)
    dsimp only
    rw [guardS_pos (by rw [List.length_map]; exact Nat.lt_of_lt_of_le q3 sz5), putV_T hn]
    exact q4) fun _ _ _ z => z)
section
variable {N B C : Rho → Prop} {R : D → Prop} {E : Rho → Str → List Str → List D → Prop} {r : Rho} {t u : Rho → Res Bool} {F K : Rho → SR}
/-- if t or u: F else: K, one test after the other -/
theorem ss_ifo (h : Rs (t r) (fun a => (a = true → Ss (F r) N R B C E) ∧ (a = false → Ss (ifF u F K r) N R B C E)) (E r)) : Ss (ifF (dOr t u) F K r) N R B C E := by
  unfold ifF
  refine ss_lift ?_
  refine rs_orc (h.impE (fun a q => ⟨fun ha => ?_, fun ha => ?_⟩) fun _ _ _ z => z)
  · exact q.1 ha
  · have q := q.2 ha
    unfold ifF at q
    cases hu : u r with
    | ok b => rw [hu] at q; exact q
    | err n ns vs => rw [hu] at q; exact q
    | bad => rw [hu] at q; exact q
theorem ss_ifa (h : Rs (t r) (fun a => (a = true → Ss (ifF u F K r) N R B C E) ∧ (a = false → Ss (K r) N R B C E)) (E r)) : Ss (ifF (dAnd t u) F K r) N R B C E := by
  unfold ifF
  refine ss_lift ?_
  refine rs_andc (h.impE (fun a q => ⟨fun ha => ?_, fun ha => ?_⟩) fun _ _ _ z => z)
  · have q := q.1 ha
    unfold ifF at q
    cases hu : u r with
    | ok b => rw [hu] at q; exact q
    | err n ns vs => rw [hu] at q; exact q
    | bad => rw [hu] at q; exact q
  · exact q.2 ha
end
end Dx
end S_DxAD
section S_DxAE
set_option Elab.async false
set_option linter.all false
set_option maxRecDepth 100000
set_option maxHeartbeats 2000000
namespace Dx
open PySem L2
abbrev TT2 := List (List Key × D)
def dtT (T : TT2) : D := .dt (T.map (·.1)) (T.map (·.2))
def lkT (T : TT2) (a : List Key) : Option D := (T.find? fun p => decide (p.1 = a)).map (·.2)
def setTT : TT2 → List Key → D → TT2
  | [], a, d => [(a, d)]
  | p :: T, a, d => if p.1 = a then (a, d) :: T else p :: setTT T a d
def NdT (T : TT2) : Prop := (T.map (·.1)).Nodup
theorem lkT_cons (p : List Key × D) (T : TT2) (a : List Key) : lkT (p :: T) a = if p.1 = a then some p.2 else lkT T a := by
  unfold lkT
  rw [List.find?_cons]
  by_cases h : p.1 = a
  · rw [if_pos h, decide_eq_true h]; rfl
  · rw [if_neg h, decide_eq_false h]
theorem getK_TT (T : TT2) (a : List Key) : getK (T.map (·.1)) (T.map (·.2)) a = lkT T a := by
  induction T with
  | nil => rfl
  | cons p T ih => rw [List.map_cons, List.map_cons, getK, ih, lkT_cons]
theorem putV_TT {T : TT2} (hn : NdT T) (a : List Key) (d : D) : putV (T.map (·.1)) (T.map (·.2)) a d = ((setTT T a d).map (·.1), (setTT T a d).map (·.2)) := by
  have zip1 : ∀ T : TT2, a ∉ T.map (·.1) → List.zipWith (fun k v => if k = a then d else v) (T.map (·.1)) (T.map (·.2)) = T.map (·.2) := fun T => by
    induction T with
    | nil => intro _; rfl
    | cons p T ih =>
      intro h
      rw [List.map_cons, List.mem_cons] at h
      rw [List.map_cons, List.map_cons, List.zipWith_cons_cons, if_neg (fun z => h (.inl z.symm)), ih (fun z => h (.inr z))]
  unfold putV
  by_cases h : a ∈ T.map (·.1)
  · rw [if_pos (by rw [List.any_eq_true]; exact ⟨a, h, decide_eq_true rfl⟩)]
    induction T with
    | nil => cases h
    | cons p T ih =>
      obtain ⟨n1, n2⟩ := List.nodup_cons.mp hn
      rw [setTT]
      by_cases e : p.1 = a
      · rw [if_pos e, List.map_cons, List.map_cons, List.zipWith_cons_cons, if_pos e, zip1 T (by rw [← e]; exact n1), List.map_cons, List.map_cons, e]
      · have h2 : a ∈ T.map (·.1) := by
          rw [List.map_cons, List.mem_cons] at h
          rcases h with h | h
          · exact absurd h.symm e
          · exact h
        have := ih n2 h2
        injection this with t1 t2
        rw [if_neg e, List.map_cons, List.map_cons, List.zipWith_cons_cons, if_neg e, t2, List.map_cons, List.map_cons, ← t1]
  · rw [if_neg (by rw [List.any_eq_true]; rintro ⟨x, hx, e⟩; rw [of_decide_eq_true e] at hx; exact h hx)]
    clear hn
    induction T with
    | nil => rfl
    | cons p T ih =>
      rw [List.map_cons, List.mem_cons] at h
      have := ih (fun z => h (.inr z))
      injection this with t1 t2
      rw [setTT, if_neg (fun z => h (.inl z.symm)), List.map_cons, List.map_cons, List.map_cons, List.map_cons, ← t1, ← t2]
      rfl
theorem setTT_new (T : TT2) (a : List Key) (d : D) (h : a ∉ T.map (·.1)) : setTT T a d = T ++ [(a, d)] := by
  induction T with
  | nil => rfl
  | cons p T ih =>
    have h1 : p.1 ≠ a := fun e => h (by simp [e])
    rw [setTT, if_neg h1, ih fun z => h (by rw [List.map_cons]; exact List.mem_cons_of_mem _ z)]
    rfl
section
variable {Q : D → Prop} {E : Str → List Str → List D → Prop} {r : Rho} {T : TT2} {a : List Key} {d x : D}
theorem rs_getTt (h : keyT x = some a) (h1 : lkT T a = some d) (q : Q d) : Rs (getZ (dtT T) x) Q E := by
  unfold getZ dtT
  dsimp only
  rw [h]
  dsimp only
  rw [getK_TT, h1]
  exact q
theorem rs_dT0t (q : Q (dtT [])) : Rs (dT0 r) Q E := q
end
theorem ss_putTt {N B C : Rho → Prop} {R : D → Prop} {E : Rho → Str → List Str → List D → Prop} {r : Rho} {f fk : Rho → Res D} {i : Nat} {T : TT2} (hn : NdT T) (h1 : r[i]? = some (some (dtT T)))
    (h : Rs (f r) (fun d => Rs (fk r) (fun k => ∃ a, keyT k = some a ∧ T.length < 100000 ∧ N (r.set i (some (dtT (setTT T a d))))) (E r)) (E r)) : Ss (putT i fk f r) N R B C E :=
  ss_lift (h.impE (fun d q => by
    refine ss_lift (Rs.of (a := (T.map (·.1), T.map (·.2))) (by unfold ownT; rw [h1]; rfl) (ss_lift (q.impE (fun k q => ?_) fun _ _ _ z => z)))
    obtain ⟨a, q2, q3, q4⟩ := q
    refine ss_lift (Rs.of (a := a) (by unfold asT; rw [q2]) ?_)
    dsimp only
    rw [guardS_pos (by rw [List.length_map]; exact Nat.lt_of_lt_of_le q3 sz5), putV_TT hn]
    exact q4) fun _ _ _ z => z)
end Dx
end S_DxAE
section S_DxAF
set_option Elab.async false
set_option linter.all false
set_option maxRecDepth 100000
set_option maxHeartbeats 4000000
namespace Dx
open PySem L2 PySem.Spec PyProof.Rows
end Dx
end S_DxAF
section S_DxAG
set_option Elab.async false
set_option linter.all false
set_option maxRecDepth 100000
set_option maxHeartbeats 4000000
namespace Dx
open PySem L2
end Dx
end S_DxAG
section S_DxAH
set_option Elab.async false
set_option linter.all false
set_option maxRecDepth 100000
set_option maxHeartbeats 2000000
namespace Dx
open PySem L2
end Dx
end S_DxAH
section S_DxAI
set_option Elab.async false
set_option linter.all false
set_option maxRecDepth 100000
set_option maxHeartbeats 2000000
namespace Dx
open PySem PySem.Spec L2 ItX PyProof.Rows
end Dx
end S_DxAI
section S_DxAJ
set_option Elab.async false
set_option linter.all false
set_option maxRecDepth 100000
set_option maxHeartbeats 2000000
namespace Dx
open PySem L2 ItX PyProof.Rows
section
variable {X : Cx} {c : Cf} {L G G' : List Ow} {f f1 : Rho → Res D} {fs gs : Rho → Res (List D)} {e o : Expr} {es : List Expr} {kws : List Keyword} {pos apos p : Pos} {C : Addr}
variable {k n : Nat} {fa : Addr} {fd : FuncData} {ps ks : List Str} {ms ms1 ms2 : List Bool} {rm : Bool} {F : List D → Res D}
theorem RpM.length {S H : Hp} : ∀ {ms : List Bool} {vs : List V} {ds : List D}, RpM c S H ms vs ds → vs.length = ms.length
  | [], vs, ds, h => by cases vs <;> cases ds <;> first | rfl | exact h.elim
  | b :: ms, vs, ds, h => by
    cases vs with
    | nil => cases b <;> cases ds <;> exact h.elim
    | cons v vs => cases ds with
      | nil => cases b <;> exact h.elim
      | cons d ds => cases b <;> exact congrArg Nat.succ (RpM.length h.2)
end
end Dx
end S_DxAJ
section S_DxAK
set_option Elab.async false
set_option linter.all false
set_option maxRecDepth 100000
set_option maxHeartbeats 2000000
namespace Dx
open PySem PySem.Spec L2 ItX PyProof.Rows
end Dx
end S_DxAK
section S_DxAL
set_option Elab.async false
set_option linter.all false
set_option maxRecDepth 100000
set_option maxHeartbeats 2000000
namespace Dx
open PySem PySem.Spec L2 ItX PyProof.Rows
theorem _root_.L2H.RoomH.units {k : Nat} {A : Around} (r : L2H.RoomH k A) : A.units + 64 < cLine := by have := r.un; omega
end Dx
end S_DxAL
section S_DxAM
set_option Elab.async false
set_option linter.all false
set_option maxRecDepth 100000
set_option maxHeartbeats 2000000
namespace Dx
open PySem L2 ItX
end Dx
end S_DxAM
section S_DxAN
set_option Elab.async false
set_option linter.all false
set_option maxRecDepth 100000
set_option maxHeartbeats 2000000
namespace Dx
open PySem L2 ItX
open PyProof.Rows hiding St
end Dx
end S_DxAN
section S_DxAO
set_option Elab.async false
set_option linter.all false
set_option maxRecDepth 100000
set_option maxHeartbeats 2000000
namespace Dx
open PySem L2 ItX
open PyProof.Rows hiding St
def rem (H : Hp) (p : Addr) : Hp := fun a => if a = p then none else H a
theorem rem_ne {H : Hp} {p a : Addr} (h : a ≠ p) : rem H p a = H a := if_neg h
theorem Ex.rem {S H : Hp} {p : Addr} (e : Ex S H) (n : S p = none) : Ex S (rem H p) := fun a o h => by
  have : a ≠ p := fun z => by subst z; rw [n] at h; cases h
  rw [rem_ne this]; exact e a o h
section
variable {c : Cf} {S0 H0 S H S' H' : Hp} {G : List Ow} {σ : St} {r : Rho}
/-- the own object in slot i is given away -/
theorem EnvOk.take (e : EnvOk c S0 H0 G S H σ r) {i : Nat} {d : D} {p : Addr} (k : kd G i = .o) (h : r[i]? = some (some d)) (hs : σ[i]? = some (some (.ref p))) (s3 : S p = none) (s4 : H0 p = none) : EnvOk c S0 H0 (G.set i .v) S (rem H p) σ (r.set i none) := by
  have sl : ∀ {j : Nat} {b : D}, (r.set i none)[j]? = some (some b) → i ≠ j ∧ r[j]? = some (some b) := fun {j b} hb => by
    rcases set_some hb with ⟨_, ea, _⟩ | ⟨ne, hb⟩
    · cases ea
    · exact ⟨ne, hb⟩
  refine ⟨⟨e.fwd.s, e.fwd.h.rem s4, e.fwd.sub.rem s3, e.fwd.new⟩, by rw [List.length_set]; exact e.len, fun j b hb => ?_, fun j l b b' q hj hl kj kl sj sl' => ?_, let ⟨A, hA⟩ := e.sto; ⟨A, ?_⟩⟩
  · obtain ⟨ne, hb⟩ := sl hb
    obtain ⟨v, h1, h2⟩ := e.slot j b hb
    refine ⟨v, h1, ?_⟩
    rw [kd_set_ne ne]
    cases kj : kd G j with
    | o =>
      rw [kj] at h2
      obtain ⟨q, ho, z1, z2, z3, z4, z5⟩ := h2
      subst z1
      have hq : q ≠ p := fun z => by subst z; exact ne (e.sep i j d b q h hb (isO_o k) (isO_o kj) hs h1)
      exact ⟨q, ho, rfl, by rw [rem_ne hq]; exact z2, z3, z4, z5⟩
    | i a =>
      rw [kj] at h2
      obtain ⟨z0, q, ho, z1, z2, z3, z4, z5⟩ := h2
      subst z1
      have hq : q ≠ p := fun z => by subst z; exact ne (e.sep i j d b q h hb (isO_o k) (by rw [kj]; trivial) hs h1)
      exact ⟨z0, q, ho, rfl, by rw [rem_ne hq]; exact z2, z3, z4, z5⟩
    | v => rw [kj] at h2; exact h2
    | b => rw [kj] at h2; exact h2
    | s P => rw [kj] at h2; exact h2
    | w => rw [kj] at h2; exact h2
    | x a C dd => rw [kj] at h2; exact h2
  · obtain ⟨n1, hj⟩ := sl hj
    obtain ⟨n2, hl⟩ := sl hl
    rw [kd_set_ne n1] at kj
    rw [kd_set_ne n2] at kl
    exact e.sep j l b b' q hj hl kj kl sj sl'
  · have np : ∀ a ∈ A, a ≠ p := fun a ha z => hA.own i d p h (isO_o k) hs (z ▸ ha)
    refine hA.sub (fun a ha => (hA.out a ha).1) (fun a ha => rem_ne (np a ha)) Ex.refl (fun j b q hj kj sj => ?_) fun j b kj hj => ?_
    · obtain ⟨n1, hj⟩ := sl hj
      rw [kd_set_ne n1] at kj
      exact hA.own j b q hj kj sj
    · obtain ⟨n1, hj⟩ := sl hj
      rw [kd_set_ne n1]
      exact ⟨rfl, hj, rfl⟩
end
end Dx
end S_DxAO
section S_DxAP
set_option Elab.async false
set_option linter.all false
set_option maxRecDepth 100000
set_option maxHeartbeats 2000000
namespace PySem
end PySem
namespace RZ
open PySem
open PySem.Sem (wp)
section
variable {prog : Program} {w : World} {A : Around} {E : Value → Shared → Prop} {s : Shared}
abbrev IsSeq (h : Heap) (T : Addr) (xs : Array Value) : Prop := h.get? T = some { cls := .type "tuple", data := .seq xs }
theorem updateSeq_seq {T : Addr} {xs : Array Value} {x : Value} {k : Nat} {Q : Unit → Shared → Prop} (hn : xs.size ≤ sizeLine) (hT : IsSeq s.heap T xs)
    (h : ∀ h', IsSeq h' T (xs.setIfInBounds k x) → Heap.SameBut T s.heap h' → Q () { s with heap := h' }) :
    wpAny (model prog w) A (updateSeq T (·.setIfInBounds k x)) Q E s := by
  refine wpAny_updateSeq hT rfl (h _ ?_ (Heap.SameBut.update ..)) (hz := hn)
  show (s.heap.update T _).get? T = _
  rw [Heap.get?_update_self _ hT rfl]
  simp [Obj.mapSeq]
end
end RZ
end S_DxAP
section S_DxAR
set_option Elab.async false
set_option linter.all false
set_option maxRecDepth 100000
set_option maxHeartbeats 2000000
namespace Dx
open PySem L2 ItX
open PyProof.Rows hiding St
def seqT : D → Option (List D)
  | .tup ds => some ds
  | .kt ds => some ds
  | _ => none
theorem seqT_v {K : PySem.W.Frag} {cm : CM} {S : Hp} {v : V} {d : D} {ds : List D} (h : Rp K cm S v d) (q : seqT d = some ds) : ∃ a xs, v = .ref a ∧ SqT K S a xs ∧ RpA K cm S xs ds := by
  cases d with
  | tup es =>
    cases q
    cases h with | tup h1 r => exact ⟨_, _, rfl, .inl (.inl h1), r⟩
  | kt es =>
    cases q
    cases h with | kt h1 r => exact ⟨_, _, rfl, h1, r⟩
  | _ => cases q
end Dx
end S_DxAR
section S_DxAS
set_option Elab.async false
set_option linter.all false
set_option maxRecDepth 100000
set_option maxHeartbeats 2000000
namespace Dx
open PySem L2 ItX
open PyProof.Rows hiding St
end Dx
end S_DxAS
section S_DxAT
set_option Elab.async false
set_option linter.all false
set_option maxRecDepth 100000
set_option maxHeartbeats 2000000
namespace Dx
open PySem L2 ItX
open PyProof.Rows hiding St
end Dx
end S_DxAT
section S_DxAU
set_option Elab.async false
set_option linter.all false
set_option maxRecDepth 100000
set_option maxHeartbeats 2000000
namespace Dx
open PySem L2 ItX
open PyProof.Rows hiding St
end Dx
end S_DxAU
section S_DxAV
set_option Elab.async false
set_option linter.all false
set_option maxRecDepth 100000
set_option maxHeartbeats 2000000
namespace Dx
open PySem L2 ItX
open PyProof.Rows hiding St
end Dx
end S_DxAV
section S_DxAW
set_option Elab.async false
set_option linter.all false
set_option maxRecDepth 100000
set_option maxHeartbeats 2000000
namespace Dx
open PySem L2 HandSPX
open PyProof.Rows hiding St
end Dx
end S_DxAW
section S_DxAX
set_option Elab.async false
set_option linter.all false
set_option maxRecDepth 100000
set_option maxHeartbeats 2000000
namespace Dx
open PySem L2 PySem.Spec
open PyProof.Rows hiding St passOn frameOf
end Dx
end S_DxAX
section S_DxAY
set_option Elab.async false
set_option linter.all false
set_option maxRecDepth 100000
set_option maxHeartbeats 2000000
namespace Dx
open PySem L2
open PyProof.Rows hiding St
end Dx
end S_DxAY
section S_DxAZ
set_option Elab.async false
set_option linter.all false
set_option maxRecDepth 100000
set_option maxHeartbeats 2000000
namespace Dx
open PySem L2
open PyProof.Rows hiding St
section
variable {X : Cx} {c : Cf} {L G G' : List Ow} {σ : St} {S0 H0 S H S' H' : Hp} {r : Rho} {pos : Pos} {e : Expr}
theorem RmA.snoc {A : List Addr} {xs : List V} {row : List D} {v : V} {d : D} (h : RmA c.K c.cm A S xs row) (hv : RmV c.K c.cm A S v d) : RmA c.K c.cm A S (xs ++ [v]) (row ++ [d]) := by
  refine ⟨by rw [List.length_append, List.length_append, h.1]; rfl, fun i u b hu hb => ?_⟩
  by_cases hi : i < row.length
  · rw [List.getElem?_append_left (by rw [h.1]; exact hi)] at hu
    rw [List.getElem?_append_left hi] at hb
    exact h.2 i u b hu hb
  · rw [List.getElem?_append_right (by rw [h.1]; omega), h.1] at hu
    rw [List.getElem?_append_right (by omega)] at hb
    cases hz : i - row.length with
    | zero =>
      rw [hz] at hu hb
      cases hu; cases hb
      exact hv
    | succ n =>
      rw [hz] at hb
      simp at hb
theorem RmA.dropLast {A : List Addr} {xs : List V} {row : List D} (h : RmA c.K c.cm A S xs row) : RmA c.K c.cm A S xs.dropLast row.dropLast := by
  refine ⟨by rw [List.length_dropLast, List.length_dropLast, h.1], fun i u b hu hb => ?_⟩
  rw [List.getElem?_dropLast] at hu hb
  split at hu
  · split at hb
    · exact h.2 i u b hu hb
    · cases hb
  · cases hu
variable {a b : Expr} {f1 f2 : Rho → Res D} {p1 p2 : Pos}
end
end Dx
end S_DxAZ
section S_DxBA
set_option Elab.async false
set_option linter.all false
set_option maxRecDepth 100000
set_option maxHeartbeats 2000000
namespace Dx
open PySem L2
open PyProof.Rows hiding St
end Dx
end S_DxBA
section S_DxBB
set_option Elab.async false
set_option linter.all false
set_option maxRecDepth 100000
set_option maxHeartbeats 2000000
namespace Dx
open PySem L2
open PyProof.Rows hiding St
section
variable {X : Cx} {c : Cf} {L G G' : List Ow} {σ : St} {S0 H0 S H S' H' : Hp} {r : Rho} {pos : Pos} {e : Expr}
theorem RmV.plain {A : List Addr} {v : V} {d : D} (h : RmV c.K c.cm A S v d) (ho : isOwn d = false) : Rp c.K c.cm S v d := by
  rcases h with h | ⟨j, a, e, _⟩
  · exact h
  · subst e; cases ho
end
end Dx
end S_DxBB
section S_DxBC
set_option Elab.async false
set_option linter.all false
set_option maxRecDepth 100000
set_option maxHeartbeats 2000000
namespace Dx
open PySem L2
open PyProof.Rows hiding St
inductive ModR (K : PySem.W.Frag) : List DictEntry → List (Str × D) → Prop
  | nil : ModR K [] []
  | cons {h : Int} {x y : Str} {t : Tok} {u : Value} {r : List DictEntry} {v : V} {d : D} {rows : List (Str × D)} (h0 : x = y) (h2 : RelV v u) (h3 : ∀ (cm : CM) S, Rp K cm S v d) (h4 : ModR K r rows) :
      ModR K (⟨h, .str x t, u⟩ :: r) ((y, d) :: rows)
def lookD : List (Str × D) → Str → Option D
  | [], _ => none
  | (x, d) :: r, z => if x = z then some d else lookD r z
theorem ModR.find {K : PySem.W.Frag} : ∀ {es : List DictEntry} {rows : List (Str × D)}, ModR K es rows → ∀ z : Str,
    (lookD rows z = none ∧ (es.find? fun e => Value.isStrOf z e.key) = none) ∨ ∃ d v e, lookD rows z = some d ∧ (es.find? fun e => Value.isStrOf z e.key) = some e ∧ RelV v e.val ∧ ∀ (cm : CM) S, Rp K cm S v d
  | _, _, .nil, z => .inl ⟨rfl, rfl⟩
  | _, _, .cons (h := h) (x := x) (t := t) (u := u) (r := r) (v := v) (d := d) (rows := rows) h0 h2 h3 h4, z => by
    subst h0
    by_cases e : x = z
    · subst e
      refine .inr ⟨d, v, ⟨h, .str x t, u⟩, by unfold lookD; rw [if_pos rfl], ?_, h2, h3⟩
      rw [List.find?_cons_of_pos]
      show (x == x) = true
      simp
    · have q : (List.find? (fun e => Value.isStrOf z e.key) ((⟨h, .str x t, u⟩ : DictEntry) :: r)) = List.find? (fun e => Value.isStrOf z e.key) r := List.find?_cons_of_neg (by
        show ¬ (x == z) = true
        intro w
        exact e (eq_of_beq w))
      rw [q]
      have q2 : lookD ((x, d) :: rows) z = lookD rows z := by
        show (if x = z then some d else lookD rows z) = _
        rw [if_neg e]
      rw [q2]
      exact h4.find z
def ModD (K : PySem.W.Frag) (w : World) (a : Addr) (rows : List (Str × D)) : Prop := ∃ es n, KDict K w a es n ∧ ModR K es.toList rows
theorem ModD.mk {K : PySem.W.Frag} {w : World} {a : Addr} {es : List DictEntry} {n : Nat} {rows : List (Str × D)} (h1 : K.lookup a = some ⟨.type "dict", none, .dict es.toArray n, #[]⟩) (h2 : PySem.W.KeysLit w.params es) (h3 : (a == sysModules) = false) (h4 : ModR K es rows) :
    ModD K w a rows := ⟨_, n, ⟨h1, by simpa using h2, h3⟩, by simpa using h4⟩
section
variable {X : Cx} {c : Cf} {G : List Ow} {f1 : Rho → Res D} {a b : Expr} {pos : Pos} {k : Addr} {rows : List (Str × D)}
theorem ModR.findBy {K : PySem.W.Frag} {es : Array DictEntry} (h : ModR K es.toList rows) (z : Str) :
    (lookD rows z = none ∧ PySem.findBy Value.isStrOf es z = none) ∨ ∃ d v u, lookD rows z = some d ∧ PySem.findBy Value.isStrOf es z = some u ∧ RelV v u ∧ ∀ (cm : CM) S, Rp K cm S v d := by
  unfold PySem.findBy
  rw [← Array.find?_toList]
  rcases h.find z with ⟨h1, h2⟩ | ⟨d, v, e, h1, h2, h3⟩
  · exact .inl ⟨h1, by rw [h2]; rfl⟩
  · exact .inr ⟨d, v, e.val, h1, by rw [h2]; rfl, h3⟩
def mdIn (neg : Bool) (rows : List (Str × D)) : D → Res D
  | .str z => .ok (.bl (if neg = true then !(lookD rows z).isSome else (lookD rows z).isSome))
  | _ => .bad
def mdGet (rows : List (Str × D)) : D → Res D
  | .str z => match lookD rows z with
    | some d => .ok d
    | none => .bad
  | _ => .bad
theorem op_mdIn (D : ModD X.K X.w k rows) : OpR X (compareOp .In) (fun x y H Q => ∃ z : Str, x = .str z ∧ y = .ref k ∧ Q (.bl (lookD rows z).isSome) H) := by
  intro pins s σ H x y v u Q I rx ry h
  obtain ⟨z, rfl, rfl, q⟩ := h
  obtain ⟨es, n, D, R⟩ := D
  obtain ⟨t, rfl⟩ := rx
  cases ry
  refine wpAny_in_of (PySem.strKind_is X.prog X.w z t) D.low (PySem.W.mapOf_K (prog := X.prog) I.kIn D.at_ D.lit) ?_
  rcases R.findBy z with ⟨h1, h2⟩ | ⟨d, v, u, h1, h2, _⟩
  · rw [h2]; rw [h1] at q; exact ⟨.bl false, H, I.tok _, rfl, q⟩
  · rw [h2]; rw [h1] at q; exact ⟨.bl true, H, I.tok _, rfl, q⟩
theorem ix_md (D : ModD X.K X.w k rows) : IxR X (fun x y H Q => ∃ z d, x = .ref k ∧ y = .str z ∧ lookD rows z = some d ∧ ∀ v, (∀ (cm : CM) S, Rp X.K cm S v d) → Q v H) := by
  intro value slice pins s σ H x y v u Q I rx ry h hs
  obtain ⟨z, d, rfl, rfl, hz, q⟩ := h
  obtain ⟨es, n, D, R⟩ := D
  obtain rfl : v = Value.ref k := rx
  obtain ⟨t, rfl⟩ := ry
  have hm := PySem.W.mapOf_K (prog := X.prog) (w := X.w) I.kIn D.at_ D.lit
  rcases R.findBy z with ⟨h1, h2⟩ | ⟨d', v', u, h1, h2, h3, h4⟩
  · rw [h1] at hz; cases hz
  · rw [h1] at hz; cases hz
    exact tail_any hm.typeIs slot_dict_getitem.lookup (wpAny_getItem_of (PySem.strKind_is X.prog X.w z t) hm h2 ⟨v', H, I.tok _, h3, q v' h4⟩) hs
theorem md_rd {neg : Bool} : ∀ σ H Q, tV c G (dUn (mdIn neg rows) f1) σ H Q → tOp (fun x y H Q => ∃ z : Str, x = .str z ∧ y = .ref k ∧ Q (.bl (if neg = true then !(lookD rows z).isSome else (lookD rows z).isSome)) H) (tR c G f1) (tC (.ref k)) σ H Q :=
  fun σ H Q ⟨S0, H0, S, r, ok, p⟩ => rd_seq ok p fun d v S1 H1 w1 o1 m1 p1 => by
    unfold mdIn at p1
    split at p1
    · cases m1.str
      exact ⟨_, rfl, rfl, p1.go o1.ex _ (.bl _)⟩
    · exact p1.elim
theorem md_rdT {neg : Bool} : ∀ σ H Q, tT c G (dT (dUn (mdIn neg rows) f1)) σ H Q → tTest (tOp (fun x y H Q => ∃ z : Str, x = .str z ∧ y = .ref k ∧ Q (.bl (if neg = true then !(lookD rows z).isSome else (lookD rows z).isSome)) H) (tR c G f1) (tC (.ref k))) σ H Q :=
  fun σ H Q ⟨S0, H0, S, r, ok, p⟩ => md_rd (G := G) σ H _ (rd_seq ok p fun d v S1 H1 w1 o1 m1 p1 => by
    obtain ⟨b, rfl, p1⟩ := of_asB p1
    cases m1
    exact ⟨b, rfl, p1.go o1.ex _ rfl⟩)
theorem dt_mdIn (D : ModD X.K X.w k rows) (ha : PE X a (tR c G f1)) (hb : PE X b (tC (.ref k))) (hm : behindInMarks .In b = false) : PT X (.Compare a [.In] [b] pos) (tT c G (dT (dUn (mdIn false rows) f1))) :=
  pt_imp (pt_cmpR (op_mdIn D) ha hb hm) (md_rdT (neg := false))
/-- D[e] -/
theorem de_mdGet (D : ModD X.K X.w k rows) (ha : PE X a (tC (.ref k))) (hb : PE X b (tR c G f1)) (hs : PlainIx b) (hK : c.K = X.K := by rfl) : PE X (.Subscript a b pos) (tV c G (dUn (mdGet rows) f1)) :=
  pe_imp (pe_ix (ix_md D) ha hb hs) fun σ H Q ⟨S0, H0, S, r, ok, p⟩ => rd_seq ok p fun d v S1 H1 w1 o1 m1 p1 => by
    unfold mdGet at p1
    split at p1
    · split at p1
      · rename_i d hd
        cases m1.str
        exact ⟨_, d, rfl, rfl, hd, fun v hv => p1.go o1.ex _ (by show Rp c.K c.cm _ v d; rw [hK]; exact hv _ _)⟩
      · exact p1.elim
    · exact p1.elim
end
end Dx
end S_DxBC
section S_DxBD
set_option Elab.async false
set_option linter.all false
set_option maxRecDepth 100000
set_option maxHeartbeats 2000000
namespace Dx
open PySem L2 ItX
open PyProof.Rows hiding St
end Dx
end S_DxBD
section S_DxBE
set_option Elab.async false
set_option linter.all false
set_option maxRecDepth 100000
set_option maxHeartbeats 2000000
namespace Dx
open PySem L2 ItX
open PyProof.Rows hiding St
section
variable {X : Cx} {c : Cf} {G : List Ow} {k : Nat} {fa C : Addr} {fd : FuncData} {ps : List Str} {n : Str} {F : List D → Res D} {rm : Bool} {ms : List Bool} {f1 : Rho → Res D} {fs : Rho → Res (List D)} {e : Expr} {es : List Expr} {pos : Pos}
theorem de_callIV {fe : Expr} (hcn : c.cm n = some C) (cc : StX.CallO X.K C fa) (F1 : FnOk X.prog X.w X.K X.mg X.base (L2.CX X.prog X.w) k fa fd ps (spD c.K c.cm (false :: ms) rm F)) (tk : Takes X c.W) (hr : Room k X.A) (hb : L2.Binds X.K fd ps [])
    (hf : PE X fe (tV c G f1)) (ha : PA X (e :: es) (tM c G ms fs))
    (ht : eval (.Call fe (e :: es) [] pos) X.env = (do callWith pos (← eval fe X.env) [] (backTo pos (starEach (e :: es) X.env)) (backToKw pos (keywordEach [] X.env))) := by rfl)
    (he : starEach (e :: es) X.env = (false, eval e X.env) :: starEach es X.env := by rfl) (hpl : (backTo pos (starEach es X.env)).any (·.1) = false := by rfl) :
    PE X (.Call fe (e :: es) [] pos) (rd c G (dCallO n F f1 fs) (mR c rm)) :=
  pe_imp (pe_callOS (E := fun σ cls d H => c.W cls d σ H) hf cc F1 hr hb (fun σ => passAt tk σ) ha ht he hpl) fun σ H Q ⟨S0, H0, S, r, ok, q⟩ => rd_seq ok q fun x v S1 H1 w1 o1 m1 p1 => by
    split at p1
    · rename_i hx
      obtain ⟨a, dx, gs, rfl, h2⟩ := of_isCls o1.ex hcn hx (.inl m1)
      refine ⟨a, rfl, rd_seq o1 p1 fun ds vs S2 H2 w2 o2 m2 p3 => ?_⟩
      have m1' : Rp c.K c.cm S2 (.ref a) x := Rp.mono w2.s m1
      exact ⟨⟨dx, gs, w2.h _ _ h2⟩, call_rd (ds := x :: ds) (fun _ _ _ h => h) o2.ex ⟨m1', m2⟩ (p3.anti (w1.h.trans w2.h))⟩
    · exact p1.elim
/-- list * int, the new list one's own -/
noncomputable def repL : D → D → Res D
  | .lst a, .int k => guard (0 ≤ k ∧ k < 2 ^ 60 ∧ a.length * k.toNat ≤ sizeLine) (.ok (.lst (List.replicate k.toNat a).flatten))
  | _, _ => .bad
theorem os_repL : OpS c (mO c) rRep repL := by
  intro σ S H x y d e Q ex hx hy p
  unfold repL at p
  split at p
  · obtain ⟨q1, xs, rfl, a1, r1⟩ := hx.list ex
    cases hy.int
    obtain ⟨⟨h0, h1, h2⟩, p⟩ := p.gd
    exact ⟨_, _, xs, rfl, rfl, a1, by omega, by omega, by rw [r1.length]; exact h2, fun q hq => p.kept ex hq (.lst (r1.rep _))⟩
  · exact p.elim
end
section
variable {Q : D → Prop} {E : Str → List Str → List D → Prop}
theorem rs_repL {ds : List D} {j : Int} (h : 0 ≤ j ∧ j < 2 ^ 60 ∧ ds.length * j.toNat ≤ sizeLine) (q : Q (.lst (List.replicate j.toNat ds).flatten)) : Rs (repL (.lst ds) (.int j)) Q E := rs_guard h q
end
end Dx
end S_DxBE
section S_DxBF
set_option Elab.async false
set_option linter.all false
set_option maxRecDepth 100000
set_option maxHeartbeats 2000000
namespace PySem
namespace F
theorem typeCall_zipT2 (a b : Value) : checkTypeCall "zip" ⟨[a, b], []⟩ = pure () := by kernel_rfl
theorem newCall_zipT2 (a b : Value) : checkBuiltinCall "zip.__new__" ⟨[.type "zip", a, b], []⟩ = pure () := by kernel_rfl
theorem args_object_initT2 (a b c : Value) : argsOk "object.__init__" ⟨[a, b, c], []⟩ := by
  unfold argsOk; rw [signature?_of (id := "object.__init__") (n := ['_', '_', 't', 'i', 'n', 'i', '_', '_']) (o := ['t', 'c', 'e', 'j', 'b', 'o']) (by kernel_rfl) owner_object]; kernel_rfl
end F
end PySem
namespace RZ
open PySem
open PySem.Sem (wp)
section
variable {prog : Program} {w : World} {A : Around} {E : Value → Shared → Prop} {s : Shared}
structure ZapT2 (z TI TO i1 i2 l1 l2 : Addr) : Prop where
  n_TI_z : TI ≠ z
  n_TI_TO : TI ≠ TO
  n_TI_i1 : TI ≠ i1
  n_TI_i2 : TI ≠ i2
  n_TO_z : TO ≠ z
  n_TO_i1 : TO ≠ i1
  n_TO_i2 : TO ≠ i2
  n_z_TO : z ≠ TO
  n_z_i1 : z ≠ i1
  n_z_i2 : z ≠ i2
  n_i1_z : i1 ≠ z
  n_i1_TO : i1 ≠ TO
  n_i1_i2 : i1 ≠ i2
  n_i2_z : i2 ≠ z
  n_i2_TO : i2 ≠ TO
  n_i2_i1 : i2 ≠ i1
  n_l1_z : l1 ≠ z
  n_l1_TO : l1 ≠ TO
  n_l1_i1 : l1 ≠ i1
  n_l1_i2 : l1 ≠ i2
  n_l2_z : l2 ≠ z
  n_l2_TO : l2 ≠ TO
  n_l2_i1 : l2 ≠ i1
  n_l2_i2 : l2 ≠ i2
theorem zipT2_next_item {z TI TO i1 i2 l1 l2 : Addr} {k : Nat} {xs1 xs2 : Array Value} {a1 a2 : Value} {x1 x2 : Value} {Q : Value → Shared → Prop} (D : ZapT2 z TI TO i1 i2 l1 l2)
    (hz : IsZip s.heap z TI TO .none) (hTI : IsSeq s.heap TI #[.ref i1, .ref i2]) (hTO : IsSeq s.heap TO #[a1, a2])
    (h1 : s.heap.IsTupleIter i1 l1 k) (h2 : s.heap.IsTupleIter i2 l2 k)
    (q1 : s.heap.IsTuple l1 xs1) (q2 : s.heap.IsTuple l2 xs2)
    (e1 : xs1[k]? = some x1) (e2 : xs2[k]? = some x2)
    (hQ : ∀ h', IsZip h' z TI TO (rawInt s.heap.objs.size) → IsSeq h' TO #[x1, x2] → h'.IsTupleIter i1 l1 (k + 1) → h'.IsTupleIter i2 l2 (k + 1) → IsSeq h' s.heap.objs.size #[x1, x2] → h'.objs.size = s.heap.objs.size + 1 →
      (∀ c o, c ≠ z → c ≠ TO → c ≠ i1 → c ≠ i2 → s.heap.get? c = some o → h'.get? c = some o) → Q (.ref s.heap.objs.size) { s with heap := h' }) :
    wpAny (model prog w) A (Builtin.«zip.__next__» ⟨[.ref z], []⟩) (fun fin s' => ∃ v, fin = .done (.ret v) ∧ Q v s') E s := by
  show wpAny _ _ (field (.ref z) 2 >>= _) _ _ _
  refine wpAny_bind (wpAny_field hz rfl (x := .bool false) rfl ?_)
  show wpAny _ _ (field (.ref z) 3 >>= _) _ _ _
  refine wpAny_bind (wpAny_field hz rfl (x := .ref TI) rfl ?_)
  refine wpAny_bind (wpAny_seqItems hTI rfl ?_)
  show wpAny _ _ (Builtin.SmallTypes.ownedTupleIsFree (.ref z) >>= _) _ _ _
  refine wpAny_bind ?_
  unfold Builtin.SmallTypes.ownedTupleIsFree
  refine wpAny_bind (wpAny_field hz rfl (x := .none) rfl (wpAny_pure ?_))
  simp only [if_true]
  refine wpAny_bind (wpAny_rule ?_)
  refine wpAny_bind (wpAny_field hz rfl (x := .ref TO) rfl ?_)
  refine wpAny_bind (wpAny_setField_rec hz (by simp) fun g0 hz0 hs0 => ?_)
  replace hz0 : IsZip g0 z TI TO .ellipsis := hz0
  refine wpAny_bind ?_
  simp only [List.zipIdx_cons, List.zipIdx_nil, List.forIn_cons, List.forIn_nil]
  refine wpAny_bind (wpAny_bind (wpAny_onRaise ?_))
  show wpAny _ _ (Builtin.SmallTypes.nextOf (.ref i1) >>= _) _ _ _
  refine wpAny_bind (nextOf_tuple_item (h1.extBut hs0.extBut D.n_i1_z) (q1.extBut hs0.extBut D.n_l1_z) e1 fun n1 hn1 hsn1 => wpAny_pure ?_)
  have hTOn1 : IsSeq n1 TO #[a1, a2] := (hsn1.extBut _ _ D.n_TO_i1 (hs0.extBut _ _ D.n_TO_z hTO))
  refine wpAny_bind (wpAny_seqItems hTOn1 rfl ?_)
  refine wpAny_bind (updateSeq_seq (by show 2 ≤ sizeLine; decide) hTOn1 fun u1 hTOu1 hsu1 => ?_)
  replace hTOu1 : IsSeq u1 TO #[x1, a2] := hTOu1
  refine wpAny_bind (wpAny_letGo (wpAny_pure ?_))
  refine wpAny_bind (wpAny_bind (wpAny_onRaise ?_))
  show wpAny _ _ (Builtin.SmallTypes.nextOf (.ref i2) >>= _) _ _ _
  refine wpAny_bind (nextOf_tuple_item (((h2.extBut hs0.extBut D.n_i2_z).extBut hsn1.extBut D.n_i2_i1).extBut hsu1.extBut D.n_i2_TO) (((q2.extBut hs0.extBut D.n_l2_z).extBut hsn1.extBut D.n_l2_i1).extBut hsu1.extBut D.n_l2_TO) e2 fun n2 hn2 hsn2 => wpAny_pure ?_)
  have hTOn2 : IsSeq n2 TO #[x1, a2] := (hsn2.extBut _ _ D.n_TO_i2 hTOu1)
  refine wpAny_bind (wpAny_seqItems hTOn2 rfl ?_)
  refine wpAny_bind (updateSeq_seq (by show 2 ≤ sizeLine; decide) hTOn2 fun u2 hTOu2 hsu2 => ?_)
  replace hTOu2 : IsSeq u2 TO #[x1, x2] := hTOu2
  refine wpAny_bind (wpAny_letGo (wpAny_pure (wpAny_pure ?_)))
  refine wpAny_bind (wpAny_seqItems hTOu2 rfl ?_)
  refine wpAny_bind (wpAny_newTuple ?_)
  have hsz : u2.objs.size = s.heap.objs.size := by rw [hsu2.1, hsn2.1, hsu1.1, hsn1.1, hs0.1]
  have hzL : IsZip u2 z TI TO .ellipsis := (hsu2.extBut _ _ D.n_z_TO (hsn2.extBut _ _ D.n_z_i2 (hsu1.extBut _ _ D.n_z_TO (hsn1.extBut _ _ D.n_z_i1 hz0))))
  have hkL : ∀ c o, c ≠ z → c ≠ TO → c ≠ i1 → c ≠ i2 → s.heap.get? c = some o → u2.get? c = some o := fun c o c1 c2 d1 d2 e => (hsu2.extBut _ _ c2 (hsn2.extBut _ _ d2 (hsu1.extBut _ _ c2 (hsn1.extBut _ _ d1 (hs0.extBut _ _ c1 e)))))
  have hL1 : u2.IsTupleIter i1 l1 (k + 1) := (((hn1.extBut hsu1.extBut D.n_i1_TO).extBut hsn2.extBut D.n_i1_i2).extBut hsu2.extBut D.n_i1_TO)
  have hL2 : u2.IsTupleIter i2 l2 (k + 1) := (hn2.extBut hsu2.extBut D.n_i2_TO)
  have hzlt : z < u2.objs.size := Heap.lt_size hzL
  have hTOlt : TO < u2.objs.size := Heap.lt_size hTOu2
  show wpAny _ _ (Builtin.SmallTypes.ownedTupleHandOut (.ref z) (.ref u2.objs.size) >>= _) _ _ _
  refine wpAny_bind ?_
  unfold Builtin.SmallTypes.ownedTupleHandOut
  have hz6 : IsZip (u2.push { cls := .type "tuple", data := .seq #[x1, x2] }) z TI TO .ellipsis := Heap.get?_push_of_some _ hzL
  refine wpAny_bind (wpAny_setField_rec hz6 (by simp) fun h7 hz7 hs7 => ?_)
  replace hz7 : IsZip h7 z TI TO (rawInt u2.objs.size) := hz7
  refine wpAny_setField_rec hz7 (by simp) fun h8 hz8 hs8 => ?_
  replace hz8 : IsZip h8 z TI TO (rawInt u2.objs.size) := hz8
  have up : ∀ c o, c ≠ z → u2.get? c = some o → h8.get? c = some o := fun c o c1 e => hs8.extBut _ _ c1 (hs7.extBut _ _ c1 (Heap.get?_push_of_some _ e))
  have hT8 : IsSeq h8 u2.objs.size #[x1, x2] := hs8.extBut _ _ (Nat.ne_of_gt hzlt) (hs7.extBut _ _ (Nat.ne_of_gt hzlt) (Heap.get?_push_size _ rfl))
  have hz9 : h8.objs.size = u2.objs.size + 1 := by rw [hs8.1, hs7.1, Heap.size_push]
  rw [hsz] at hz8 hT8 hz9
  refine wpAny_pure ⟨_, rfl, ?_⟩
  show Q (.ref u2.objs.size) _
  rw [hsz]
  exact hQ h8 hz8 (up _ _ D.n_TO_z hTOu2) (hL1.at fun o e => up _ o D.n_i1_z e) (hL2.at fun o e => up _ o D.n_i2_z e) hT8 hz9 fun c o c1 c2 d1 d2 e => up c o c1 (hkL c o c1 c2 d1 d2 e)
theorem zipT2_next_end {z TI TO i1 i2 l1 l2 : Addr} {k : Nat} {xs1 xs2 : Array Value} {a1 a2 : Value} {Q : Fin → Shared → Prop} (hh : A.handled = none) (D : ZapT2 z TI TO i1 i2 l1 l2)
    (hz : IsZip s.heap z TI TO .none) (hTI : IsSeq s.heap TI #[.ref i1, .ref i2]) (hTO : IsSeq s.heap TO #[a1, a2])
    (h1 : s.heap.IsTupleIter i1 l1 k) (h2 : s.heap.IsTupleIter i2 l2 k)
    (q1 : s.heap.IsTuple l1 xs1) (q2 : s.heap.IsTuple l2 xs2)
    (hend : xs1[k]? = none ∨ xs2[k]? = none)
    (hE : ∀ h' e, (∀ c o, c ≠ z → c ≠ TO → c ≠ i1 → c ≠ i2 → s.heap.get? c = some o → h'.get? c = some o) → (∃ o, h'.get? e = some o ∧ o.cls = .type "StopIteration") → E (.ref e) { s with heap := h' }) :
    wpAny (model prog w) A (Builtin.«zip.__next__» ⟨[.ref z], []⟩) Q E s := by
  show wpAny _ _ (field (.ref z) 2 >>= _) _ _ _
  refine wpAny_bind (wpAny_field hz rfl (x := .bool false) rfl ?_)
  show wpAny _ _ (field (.ref z) 3 >>= _) _ _ _
  refine wpAny_bind (wpAny_field hz rfl (x := .ref TI) rfl ?_)
  refine wpAny_bind (wpAny_seqItems hTI rfl ?_)
  show wpAny _ _ (Builtin.SmallTypes.ownedTupleIsFree (.ref z) >>= _) _ _ _
  refine wpAny_bind ?_
  unfold Builtin.SmallTypes.ownedTupleIsFree
  refine wpAny_bind (wpAny_field hz rfl (x := .none) rfl (wpAny_pure ?_))
  simp only [if_true]
  refine wpAny_bind (wpAny_rule ?_)
  refine wpAny_bind (wpAny_field hz rfl (x := .ref TO) rfl ?_)
  refine wpAny_bind (wpAny_setField_rec hz (by simp) fun g0 hz0 hs0 => ?_)
  replace hz0 : IsZip g0 z TI TO .ellipsis := hz0
  refine wpAny_bind ?_
  simp only [List.zipIdx_cons, List.zipIdx_nil, List.forIn_cons, List.forIn_nil]
  refine wpAny_bind (wpAny_bind (wpAny_onRaise ?_))
  show wpAny _ _ (Builtin.SmallTypes.nextOf (.ref i1) >>= _) _ _ _
  cases e1 : xs1[k]? with
  | none =>
    refine wpAny_bind (nextOf_tuple_end hh (h1.extBut hs0.extBut D.n_i1_z) (q1.extBut hs0.extBut D.n_l1_z) e1 fun hf e EX he => ?_)
    obtain ⟨oe, hoe, hce⟩ := he
    have hzf : IsZip hf z TI TO .ellipsis := (EX _ _ D.n_z_i1 hz0)
    have hez : e ≠ z := fun x => by subst x; rw [hzf] at hoe; cases hoe; simp at hce
    refine wpAny_setField_rec hzf (by simp) fun hg _ hsg => hE hg e (fun c o c1 c2 d1 d2 x => hsg.extBut _ _ c1 (EX _ _ d1 (hs0.extBut _ _ c1 x))) ⟨oe, hsg.extBut _ _ hez hoe, hce⟩
  | some x1 =>
    refine wpAny_bind (nextOf_tuple_item (h1.extBut hs0.extBut D.n_i1_z) (q1.extBut hs0.extBut D.n_l1_z) e1 fun n1 hn1 hsn1 => wpAny_pure ?_)
    have hTOn1 : IsSeq n1 TO #[a1, a2] := (hsn1.extBut _ _ D.n_TO_i1 (hs0.extBut _ _ D.n_TO_z hTO))
    refine wpAny_bind (wpAny_seqItems hTOn1 rfl ?_)
    refine wpAny_bind (updateSeq_seq (by show 2 ≤ sizeLine; decide) hTOn1 fun u1 hTOu1 hsu1 => ?_)
    replace hTOu1 : IsSeq u1 TO #[x1, a2] := hTOu1
    refine wpAny_bind (wpAny_letGo (wpAny_pure ?_))
    refine wpAny_bind (wpAny_bind (wpAny_onRaise ?_))
    show wpAny _ _ (Builtin.SmallTypes.nextOf (.ref i2) >>= _) _ _ _
    cases e2 : xs2[k]? with
    | none =>
      refine wpAny_bind (nextOf_tuple_end hh (((h2.extBut hs0.extBut D.n_i2_z).extBut hsn1.extBut D.n_i2_i1).extBut hsu1.extBut D.n_i2_TO) (((q2.extBut hs0.extBut D.n_l2_z).extBut hsn1.extBut D.n_l2_i1).extBut hsu1.extBut D.n_l2_TO) e2 fun hf e EX he => ?_)
      obtain ⟨oe, hoe, hce⟩ := he
      have hzf : IsZip hf z TI TO .ellipsis := (EX _ _ D.n_z_i2 (hsu1.extBut _ _ D.n_z_TO (hsn1.extBut _ _ D.n_z_i1 hz0)))
      have hez : e ≠ z := fun x => by subst x; rw [hzf] at hoe; cases hoe; simp at hce
      refine wpAny_setField_rec hzf (by simp) fun hg _ hsg => hE hg e (fun c o c1 c2 d1 d2 x => hsg.extBut _ _ c1 (EX _ _ d2 (hsu1.extBut _ _ c2 (hsn1.extBut _ _ d1 (hs0.extBut _ _ c1 x))))) ⟨oe, hsg.extBut _ _ hez hoe, hce⟩
    | some x2 =>
      rcases hend with h | h
      · rw [e1] at h; cases h
      · rw [e2] at h; cases h
theorem pyNext_zipT2_item {z TI TO i1 i2 l1 l2 : Addr} {k : Nat} {xs1 xs2 : Array Value} {a1 a2 : Value} {x1 x2 : Value} {Q : Option Value → Shared → Prop} (D : ZapT2 z TI TO i1 i2 l1 l2)
    (hz : IsZip s.heap z TI TO .none) (hTI : IsSeq s.heap TI #[.ref i1, .ref i2]) (hTO : IsSeq s.heap TO #[a1, a2])
    (h1 : s.heap.IsTupleIter i1 l1 k) (h2 : s.heap.IsTupleIter i2 l2 k)
    (q1 : s.heap.IsTuple l1 xs1) (q2 : s.heap.IsTuple l2 xs2)
    (e1 : xs1[k]? = some x1) (e2 : xs2[k]? = some x2)
    (hQ : ∀ h', IsZip h' z TI TO (rawInt s.heap.objs.size) → IsSeq h' TO #[x1, x2] → h'.IsTupleIter i1 l1 (k + 1) → h'.IsTupleIter i2 l2 (k + 1) → IsSeq h' s.heap.objs.size #[x1, x2] → h'.objs.size = s.heap.objs.size + 1 →
      (∀ c o, c ≠ z → c ≠ TO → c ≠ i1 → c ≠ i2 → s.heap.get? c = some o → h'.get? c = some o) → Q (some (.ref s.heap.objs.size)) { s with heap := h' }) : wpAny (model prog w) A (pyNext (.ref z)) Q E s := by
  have hT : s.TypeIs (.ref z) "zip" := ⟨_, hz, rfl⟩
  unfold pyNext
  exact wpAny_bind (wpAny_attempt (wpAny_callSpecial?_slot (name := Str.ofString "__next__") hT F.slot_zip_next
    (wpAny_call_entry F.slot_zip_next hT F.entry_zip_next
      (zipT2_next_item D hz hTI hTO h1 h2 q1 q2 e1 e2 fun h' b0 b1 b2 b3 b4 b5 b6 => wpAny_pure (hQ h' b0 b1 b2 b3 b4 b5 b6)) (F.args_zip_next_1 _))))
theorem pyNext_zipT2_end {z TI TO i1 i2 l1 l2 : Addr} {k : Nat} {xs1 xs2 : Array Value} {a1 a2 : Value} {Q : Option Value → Shared → Prop} (hh : A.handled = none) (D : ZapT2 z TI TO i1 i2 l1 l2)
    (hz : IsZip s.heap z TI TO .none) (hTI : IsSeq s.heap TI #[.ref i1, .ref i2]) (hTO : IsSeq s.heap TO #[a1, a2])
    (h1 : s.heap.IsTupleIter i1 l1 k) (h2 : s.heap.IsTupleIter i2 l2 k)
    (q1 : s.heap.IsTuple l1 xs1) (q2 : s.heap.IsTuple l2 xs2)
    (hend : xs1[k]? = none ∨ xs2[k]? = none)
    (hQ : ∀ h', (∀ c o, c ≠ z → c ≠ TO → c ≠ i1 → c ≠ i2 → s.heap.get? c = some o → h'.get? c = some o) → Q none { s with heap := h' }) : wpAny (model prog w) A (pyNext (.ref z)) Q E s := by
  have hT : s.TypeIs (.ref z) "zip" := ⟨_, hz, rfl⟩
  unfold pyNext
  refine wpAny_bind (wpAny_attempt (wpAny_callSpecial?_slot (name := Str.ofString "__next__") hT F.slot_zip_next
    (wpAny_call_entry F.slot_zip_next hT F.entry_zip_next (zipT2_next_end hh D hz hTI hTO h1 h2 q1 q2 hend fun h' e hk he => ?_) (F.args_zip_next_1 _))))
  obtain ⟨o, ho, hc⟩ := he
  refine wpAny_bind (wpAny_isInstance (T := "StopIteration") (b := true) ⟨o, ho, hc⟩ isSubtype_stop ?_)
  exact wpAny_pure (hQ _ hk)
end
abbrev zipT2H1 (h : Heap) (l1 : Addr) : Heap := h.push { cls := .type "tuple_iterator", data := .fields #[.ref l1, .int 0 0] }
abbrev zipT2H2 (h : Heap) (l1 l2 : Addr) : Heap := (zipT2H1 h l1).push { cls := .type "tuple_iterator", data := .fields #[.ref l2, .int 0 0] }
abbrev zipT2H3 (h : Heap) (l1 l2 : Addr) : Heap := (zipT2H2 h l1 l2).push { cls := .type "tuple", data := .seq #[.ref h.objs.size, .ref (zipT2H1 h l1).objs.size] }
abbrev zipT2H4 (h : Heap) (l1 l2 : Addr) : Heap := (zipT2H3 h l1 l2).push { cls := .type "tuple", data := .seq #[.none, .none] }
abbrev zipT2H5 (h : Heap) (l1 l2 : Addr) : Heap := (zipT2H4 h l1 l2).push { cls := .type "zip", data := .fields #[.none, .bool false, .bool false, .ref (zipT2H2 h l1 l2).objs.size, .ref (zipT2H3 h l1 l2).objs.size] }
theorem meets_zipT2_new (l1 l2 : Addr) (xs1 xs2 : Array Value) :
    Meets (Builtin.«zip.__new__» ⟨[.type "zip", .ref l1, .ref l2], []⟩) (fun _ R s => s.heap.IsTuple l1 xs1 ∧ s.heap.IsTuple l2 xs2 ∧
      R (.ok (.ret (.ref (zipT2H4 s.heap l1 l2).objs.size))) { s with heap := zipT2H5 s.heap l1 l2 }) :=
  .of_wp fun prog w A R s h => by
    obtain ⟨hp, g, d, tk, os⟩ := s; obtain ⟨hl1, hl2, h⟩ := h
    have hsub := sub_zip
    have hL1 : Heap.IsTuple (Shared.heap ⟨hp, g, d, tk, os⟩) l1 xs1 := hl1
    have hL2 : Heap.IsTuple (Shared.heap ⟨zipT2H1 hp l1, g, d, tk, os⟩) l2 xs2 := (Heap.IsTuple.push hl2 _)
    wp_walk using wpAny_pyIter_tuple hL1, wpAny_pyIter_tuple hL2
    exact ⟨_, rfl, h⟩
section
variable {prog : Program} {w : World} {A : Around} {E : Value → Shared → Prop} {s : Shared}
theorem call_zipT2 {l1 l2 : Addr} {xs1 xs2 : Array Value} {Q : Value → Shared → Prop} (hl1 : s.heap.IsTuple l1 xs1) (hl2 : s.heap.IsTuple l2 xs2)
    (h : ∀ h', IsZip h' (s.heap.objs.size + 4) (s.heap.objs.size + 2) (s.heap.objs.size + 3) .none → IsSeq h' (s.heap.objs.size + 2) #[.ref s.heap.objs.size, .ref (s.heap.objs.size + 1)] → IsSeq h' (s.heap.objs.size + 3) #[.none, .none] → h'.IsTupleIter s.heap.objs.size l1 0 → h'.IsTupleIter (s.heap.objs.size + 1) l2 0 → h'.objs.size = s.heap.objs.size + 5 →
      (∀ c o, s.heap.get? c = some o → h'.get? c = some o) → Q (.ref (s.heap.objs.size + 4)) { s with heap := h' }) :
    wpAny (model prog w) A (call (.type "zip") [.ref l1, .ref l2]) Q E s := by
  refine callType_new F.called_zip (by decide) (F.typeCall_zipT2 _ _) (F.newCall_zipT2 _ _) (fun obj => F.args_object_initT2 obj _ _) F.entry_zip_new
    (meets_zipT2_new l1 l2 xs1 xs2) ⟨hl1, hl2, ?_⟩
  have z1 : (zipT2H1 s.heap l1).objs.size = s.heap.objs.size + 1 := Heap.size_push ..
  have z2 : (zipT2H2 s.heap l1 l2).objs.size = s.heap.objs.size + 2 := by rw [Heap.size_push, z1]
  have z3 : (zipT2H3 s.heap l1 l2).objs.size = s.heap.objs.size + 3 := by rw [Heap.size_push, z2]
  have z4 : (zipT2H4 s.heap l1 l2).objs.size = s.heap.objs.size + 4 := by rw [Heap.size_push, z3]
  have z5 : (zipT2H5 s.heap l1 l2).objs.size = s.heap.objs.size + 5 := by rw [Heap.size_push, z4]
  have g1 : (zipT2H5 s.heap l1 l2).get? s.heap.objs.size = some _ := (Heap.get?_push_of_some _ (Heap.get?_push_of_some _ (Heap.get?_push_of_some _ (Heap.get?_push_of_some _ (Heap.get?_push_size _ rfl)))))
  have g2 : (zipT2H5 s.heap l1 l2).get? (zipT2H1 s.heap l1).objs.size = some _ := (Heap.get?_push_of_some _ (Heap.get?_push_of_some _ (Heap.get?_push_of_some _ (Heap.get?_push_size _ rfl))))
  have g3 : (zipT2H5 s.heap l1 l2).get? (zipT2H2 s.heap l1 l2).objs.size = some _ := (Heap.get?_push_of_some _ (Heap.get?_push_of_some _ (Heap.get?_push_size _ rfl)))
  have g4 : (zipT2H5 s.heap l1 l2).get? (zipT2H3 s.heap l1 l2).objs.size = some _ := (Heap.get?_push_of_some _ (Heap.get?_push_size _ rfl))
  have g5 : (zipT2H5 s.heap l1 l2).get? (zipT2H4 s.heap l1 l2).objs.size = some _ := (Heap.get?_push_size _ rfl)
  show _ ∧ _
  rw [z1] at g2
  rw [z2] at g3
  rw [z3] at g4
  rw [z4] at g5
  rw [z1] at g3
  rw [z2, z3] at g5
  rw [z4]
  exact ⟨⟨_, g5, rfl⟩, h _ g5 g3 g4 ⟨_, g1, rfl, rfl⟩ ⟨_, g2, rfl, rfl⟩ z5 fun c o x => (Heap.get?_push_of_some _ (Heap.get?_push_of_some _ (Heap.get?_push_of_some _ (Heap.get?_push_of_some _ (Heap.get?_push_of_some _ x)))))⟩
end
end RZ
end S_DxBF
section S_DxBG
set_option Elab.async false
set_option linter.all false
set_option maxRecDepth 100000
set_option maxHeartbeats 2000000
namespace RZ
open PySem PySem.Spec PyProof.Rows L2
theorem zapT2_mk (I l1 l2 : Nat) (h1 : l1 < I) (h2 : l2 < I) : ZapT2 (I + 4) (I + 2) (I + 3) I (I + 1) l1 l2 := by
  constructor <;> (refine PySem.W.neN ?_; omega)
/-- the tuples at a, b, c, d as they stand at each turn, the items in new tuples -/
def ItzT2 (K : PySem.W.Frag) (a b : Addr) : It :=
  ⟨fun i H => ∃ (ws xs : List V) (p q : V), SqT K H a ws ∧ SqT K H b xs ∧ ws[i]? = some p ∧ xs[i]? = some q,
    fun i H v H' => ∃ T p q, v = .ref T ∧ H T = none ∧ H' = upd H T (.tup [p, q]) ∧ (∀ xs, SqT K H a xs → xs[i]? = some p) ∧ ∀ xs, SqT K H b xs → xs[i]? = some q,
    fun i H => ∃ ws xs : List V, SqT K H a ws ∧ SqT K H b xs ∧ (ws.length ≤ i ∨ xs.length ≤ i)⟩
theorem turn_zipT2 {P : Program} {w : World} {K : PySem.W.Frag} {elts : List Expr} {kk : Nat} {tpos : Pos} {a b z TI TO i1 i2 : Addr} (D : ZapT2 z TI TO i1 i2 a b) :
    Turn P w K (.Tuple elts kk tpos) (ItzT2 K a b) [z, TI, TO, i1, i2] z (fun i h => IsZip h z TI TO .none ∧ IsSeq h TI #[.ref i1, .ref i2] ∧ (∃ x1 x2, IsSeq h TO #[x1, x2]) ∧ h.IsTupleIter i1 a i ∧ h.IsTupleIter i2 b i) where
  mem := by simp
  obj := fun i h st c hc => by
    obtain ⟨hz, hTI, ⟨_, _, hTO⟩, ⟨o1, e1, _, d1⟩, ⟨o2, e2, _, d2⟩⟩ := st
    have e' : c = z ∨ c = TI ∨ c = TO ∨ c = i1 ∨ c = i2 := by simpa using hc
    rcases e' with q | q | q | q | q
    · rw [q]; exact ⟨_, hz, fun v q => nomatch q⟩
    · rw [q]; exact ⟨_, hTI, fun v q => nomatch q⟩
    · rw [q]; exact ⟨_, hTO, fun v q => nomatch q⟩
    · rw [q]; exact ⟨o1, e1, fun v q => by rw [d1] at q; cases q⟩
    · rw [q]; exact ⟨o2, e2, fun v q => by rw [d2] at q; cases q⟩
  keep := fun i h h' st k => by
    obtain ⟨hz, hTI, ⟨_, _, hTO⟩, h1, h2⟩ := st
    exact ⟨k z (by simp) _ hz, k TI (by simp) _ hTI, ⟨_, _, k TO (by simp) _ hTO⟩, h1.at fun o q => k i1 (by simp) o q, h2.at fun o q => k i2 (by simp) o q⟩
  item := by
    intro X hP hw hK hc i pins s σ H E I hf st hg
    subst hP hw hK
    obtain ⟨hz, hTI, ⟨_, _, hTO⟩, h1, h2⟩ := st
    obtain ⟨ws, xs, p, q, g1, g2, e1, e2⟩ := hg
    obtain ⟨t1, r1, p1, _⟩ := I.tuple g1
    obtain ⟨t2, r2, p2, _⟩ := I.tuple g2
    obtain ⟨u1, m1, v1⟩ := r1.get e1
    obtain ⟨u2, m2, v2⟩ := r2.get e2
    have hzl : z < s.heap.objs.size := Heap.lt_size hz
    refine pyNext_zipT2_item D hz hTI hTO h1 h2 p1 p2 (x1 := u1) (x2 := u2) (by simpa using m1) (by simpa using m2) fun h' z' TO' h1' h2' hT hsz hk => ?_
    refine ⟨_, rfl, wpAny_letOwnedTupleGo_zip (s := { s with heap := h' }) z' fun h'' z'' sb => ?_⟩
    have hT2 : h''.get? s.heap.objs.size = some { cls := .type "tuple", data := .seq #[u1, u2] } := (sb.2 _ (Nat.ne_of_gt hzl)).trans hT
    have new : ObjOk X.prog X.w (upd H s.heap.objs.size (.tup [p, q])) h'' s.heap.objs.size (.tup [p, q]) :=
      ⟨by show 2 ≤ sizeLine; decide, [u1, u2], .cons v1 (.cons v2 .nil), ⟨_, hT2, rfl, _, rfl⟩⟩
    have I1 : Inv X pins σ (upd H s.heap.objs.size (.tup [p, q])) { s with heap := h'' } :=
      I.turnedNew (t' := s.toks) (ch := [z, TI, TO, i1, i2]) (fun c o hb q => (sb.2 c (fun q' => hb (by simp [q']))).trans (hk c o (fun q' => hb (by simp [q'])) (fun q' => hb (by simp [q'])) (fun q' => hb (by simp [q'])) (fun q' => hb (by simp [q'])) q)) hf (Nat.le_refl _) new
    have keepz : ∀ c o, c ≠ z → h'.get? c = some o → h''.get? c = some o := fun c o n q => (sb.2 _ n).trans q
    refine ⟨.ref s.heap.objs.size, _, I1, rfl, ⟨_, p, q, rfl, I.hok.fresh (Nat.le_refl _), rfl, fun l hl => by rw [I.tuple_inj hl g1]; exact e1, fun l hl => by rw [I.tuple_inj hl g2]; exact e2⟩, ⟨z'', ?_, ⟨u1, u2, ?_⟩, ?_, ?_⟩, fun c hcm => ?_⟩
    · exact keepz _ _ D.n_TI_z (hk _ _ D.n_TI_z D.n_TI_TO D.n_TI_i1 D.n_TI_i2 hTI)
    · exact keepz _ _ D.n_TO_z TO'
    · exact h1'.at fun o q => keepz _ o D.n_i1_z q
    · exact h2'.at fun o q => keepz _ o D.n_i2_z q
    · have hlt : c < s.heap.objs.size := by
        have e' : c = z ∨ c = TI ∨ c = TO ∨ c = i1 ∨ c = i2 := by simpa using hcm
        rcases e' with q | q | q | q | q
        · rw [q]; exact hzl
        · rw [q]; exact Heap.lt_size hTI
        · rw [q]; exact Heap.lt_size hTO
        · rw [q]; obtain ⟨_, e1, _⟩ := h1; exact Heap.lt_size e1
        · rw [q]; obtain ⟨_, e2, _⟩ := h2; exact Heap.lt_size e2
      rw [upd_ne (Nat.ne_of_lt hlt)]
      exact (hf c hcm).1
  done := by
    intro X hP hw hK hc i pins s σ H E I hf st hg
    subst hP hw hK
    obtain ⟨hz, hTI, ⟨_, _, hTO⟩, h1, h2⟩ := st
    obtain ⟨ws, xs, g1, g2, hend⟩ := hg
    obtain ⟨t1, r1, p1, _⟩ := I.tuple g1
    obtain ⟨t2, r2, p2, _⟩ := I.tuple g2
    have l1 := r1.length
    have l2 := r2.length
    have he : t1.toArray[i]? = none ∨ t2.toArray[i]? = none := by
      rcases hend with q | q
      · exact .inl (by simp; omega)
      · exact .inr (by simp; omega)
    exact pyNext_zipT2_end (I.ok.hd hc) D hz hTI hTO h1 h2 p1 p2 he fun h' hk => ⟨rfl, I.turnedL (t' := s.toks) (ch := [z, TI, TO, i1, i2]) (fun c o hb q =>
      hk c o (fun q' => hb (by simp [q'])) (fun q' => hb (by simp [q'])) (fun q' => hb (by simp [q'])) (fun q' => hb (by simp [q'])) q) hf⟩
  self := fun A i s Q E st h => wpAny_pyIter_zip st.1 h
def iZipT2 (K : PySem.W.Frag) (ta : TA) : TI := fun σ H R => ta σ H fun vs H1 => ∃ a b ws xs, vs = [.ref a, .ref b] ∧ SqT K H1 a ws ∧ SqT K H1 b xs ∧ R (ItzT2 K a b) H1
theorem pi_zipT2 {X : Cx} {e e2 : Expr} {ta : TA} {p pos tpos : Pos} {elts : List Expr} {kk : Nat} (hg : Gl X "zip") (hm : X.mg "zip" = none) (ha : PA X [e, e2] ta)
    (hs : starEach [e, e2] X.env = (false, eval e X.env) :: starEach [e2] X.env := by rfl) (hpl : (backTo pos (starEach [e2] X.env)).any (·.1) = false := by rfl) :
    PI X (.Tuple elts kk tpos) (.Call (.Name "zip" p) [e, e2] [] pos) (iZipT2 X.K ta) := by
  refine ⟨fun pins s σ H R I h => ?_⟩
  refine Call_ (ld_blt I hg hm PyProof.Rows.boot_zip (PyProof.Rows.callWith_type1 (thn (ha.run pos pins s σ H _ I h) fun us s1 ⟨vs, H1, I1, r1, q1⟩ => ?_) hs hpl))
  obtain ⟨a, b, ws, xs, ex, g1, g2, q⟩ := q1
  subst ex
  cases r1 with
  | cons ra r1 =>
  cases r1 with
  | cons rb r1 =>
  cases r1
  cases ra
  cases rb
  have fresh5 : ∀ c, c ∈ [s1.heap.objs.size + 4, s1.heap.objs.size + 2, s1.heap.objs.size + 3, s1.heap.objs.size, s1.heap.objs.size + 1] → FpOk X pins H1 c := fun c hcm => by
    have e' : c = s1.heap.objs.size + 4 ∨ c = s1.heap.objs.size + 2 ∨ c = s1.heap.objs.size + 3 ∨ c = s1.heap.objs.size ∨ c = s1.heap.objs.size + 1 := by simpa using hcm
    have hle : s1.heap.objs.size ≤ c := by
      rcases e' with z | z | z | z | z
      · rw [z]; exact Nat.le_add_right _ _
      · rw [z]; exact Nat.le_add_right _ _
      · rw [z]; exact Nat.le_add_right _ _
      · rw [z]; exact Nat.le_refl _
      · rw [z]; exact Nat.le_add_right _ _
    exact I1.fpOk hle (I1.hok.fresh hle)
  obtain ⟨t1, r1, p1, _⟩ := I1.tuple g1
  obtain ⟨t2, r2, p2, _⟩ := I1.tuple g2
  obtain ⟨o1, ho1, _⟩ := id p1
  obtain ⟨o2, ho2, _⟩ := id p2
  refine call_zipT2 (show s1.heap.IsTuple a t1.toArray from p1) (show s1.heap.IsTuple b t2.toArray from p2) fun h' hz hTI hTO h1 h2 hsz hk => wpAny_pyIter_zip hz ?_
  have I2 : Inv X pins σ H1 { s1 with heap := h' } := I1.kept (t' := s1.toks) hk
  exact ⟨s1.heap.objs.size + 4, [s1.heap.objs.size + 4, s1.heap.objs.size + 2, s1.heap.objs.size + 3, s1.heap.objs.size, s1.heap.objs.size + 1], _, _, H1, rfl, I2, turn_zipT2 (zapT2_mk s1.heap.objs.size a b (Heap.lt_size ho1) (Heap.lt_size ho2)), ⟨hz, hTI, ⟨_, _, hTO⟩, h1, h2⟩, fresh5, q⟩
theorem walk_zipT2 {K : PySem.W.Frag} {a b : Addr} {ws xs : List V} : Walk (ItzT2 K a b) (min ws.length xs.length) (fun H => SqT K H a ws ∧ SqT K H b xs)
    (fun i H v H' => ∃ T p q, v = .ref T ∧ H T = none ∧ H' = upd H T (.tup [p, q]) ∧ ws[i]? = some p ∧ xs[i]? = some q) := by
  refine ⟨fun i H hi hH => ?_, fun H hH => ?_, fun i H v H' hi hH yy => ?_⟩
  · obtain ⟨g1, g2⟩ := hH
    exact ⟨ws, xs, _, _, g1, g2, List.getElem?_eq_getElem (by omega), List.getElem?_eq_getElem (by omega)⟩
  · obtain ⟨g1, g2⟩ := hH
    exact ⟨ws, xs, g1, g2, by omega⟩
  · obtain ⟨g1, g2⟩ := hH
    obtain ⟨T, p, q, h1, h2, h3, h4, h5⟩ := yy
    exact ⟨T, p, q, h1, h2, h3, h4 _ g1, h5 _ g2⟩
end RZ
namespace Dx
open PySem L2
def zipTT : List D → Res (List D)
  | [p, q] => match seqT p, seqT q with
    | some a, some b => .ok (pairs a b)
    | _, _ => .bad
  | _ => .bad
section
variable {X : Cx} {c : Cf} {G : List Ow} {e e2 : Expr} {pos : Pos} {fs : Rho → Res (List D)}
theorem di_zipTT {p tpos : Pos} {elts : List Expr} {kk : Nat} (hm : X.mg "zip" = none) (hg : Gl X "zip") (ha : PA X [e, e2] (tAs c G fs)) (hK : c.K = X.K := by rfl) (hs : starEach [e, e2] X.env = (false, eval e X.env) :: starEach [e2] X.env := by rfl) (hpl : (backTo pos (starEach [e2] X.env)).any (·.1) = false := by rfl) :
    PI X (.Tuple elts kk tpos) (.Call (.Name "zip" p) [e, e2] [] pos) (iD c G (dIts zipTT fs)) :=
  pi_imp (RZ.pi_zipT2 hg hm ha hs hpl) fun σ H R ⟨S0, H0, S, r, ok, p⟩ => rd_seq ok p fun ds vs S1 H1 w1 o1 m1 p1 => by
    unfold zipTT at p1
    split at p1
    · rename_i d1 d2
      cases m1 with | cons h1 m1 =>
      cases m1 with | cons h2 m1 =>
      cases m1
      split at p1
      · rename_i a b z1 z2
        obtain ⟨q1, x1, rfl, s1, r1⟩ := seqT_v h1 z1
        obtain ⟨q2, x2, rfl, s2, r2⟩ := seqT_v h2 z2
        rw [hK] at s1 s2
        have W := RZ.walk_zipT2 (K := X.K) (a := q1) (b := q2) (ws := x1) (xs := x2)
        rw [r1.length, r2.length, ← pairs_len] at W
        refine ⟨q1, q2, x1, x2, rfl, o1.ex.t s1, o1.ex.t s2, p1.go o1.ex _ (show Gives c _ _ (RZ.ItzT2 X.K q1 q2) _ from ⟨_, _, W, fun S'' H'' e1 e2 _ => ⟨(e1.trans e2).t s1, (e1.trans e2).t s2⟩, fun i S2 v H2 H3 hi e1 e2 yy => ?_⟩)⟩
        obtain ⟨T, p, q, rfl, hT, rfl, g1, g2⟩ := yy
        obtain ⟨b1, k1, t1⟩ := r1.getV g1
        obtain ⟨b2, k2, t2⟩ := r2.getV g2
        have en : Ex S2 (upd S2 T (.tup [p, q])) := Ex.new (e2.nn hT)
        exact ⟨upd S2 T (.tup [p, q]), .tup [b1, b2], Fwd.both e2 hT, pairs_get _ _ i _ _ k1 k2, .tup upd_same (.cons (t1.mono (e1.trans en)) (.cons (t2.mono (e1.trans en)) .nil))⟩
      · exact p1.elim
    · exact p1.elim
end
section
variable {Q : List D → Prop} {E : Str → List Str → List D → Prop}
theorem rs_zipTT {ds es : List D} (q : Q (pairs ds es)) : Rs (zipTT [.tup ds, .tup es]) Q E := q
end
end Dx
end S_DxBG
section S_P_data
set_option Elab.async false
set_option linter.all false
set_option maxRecDepth 100000
namespace Lk
open PySem L2 Dx
noncomputable section
def isM_BadPattern : Str → Option Bool := fun n => if n = "BadPattern" then some true else if n = "NoPlace" then some false else none
def isM_LaidError : Str → Option Bool := fun n => if n = "BadPattern" then some true else if n = "NoPlace" then some true else none
def isM_NoPlace : Str → Option Bool := fun n => if n = "BadPattern" then some false else if n = "NoPlace" then some true else none
def isM_ValueError : Str → Option Bool := fun n => if n = "BadPattern" then some true else if n = "NoPlace" then some true else none
def md_LINKS : List (Str × D) := [((Sg [62]), .str (Sg [112, 97, 114, 101, 110, 116])), ((Sg [43]), .str (Sg [101, 108, 100, 101, 114]))]
def Lp_is_name_1 : Rho → SR := (ifF (dT (dOp ninD (dVar 1) (dC (.str (Sg [97, 98, 99, 100, 101, 102, 103, 104, 105, 106, 107, 108, 109, 110, 111, 112, 113, 114, 115, 116, 117, 118, 119, 120, 121, 122]))))) (retF (dC (.bl false))) .nx)
def Fb_is_name : Rho → SR := (seqF (ifF (dNot (dT (dChain leD leD (dC (.int 1)) (dCall (g1 lenD) (dCons (dVar 0) dNil)) (dC (.int 8))))) (retF (dC (.bl false))) .nx) (seqF (forF (dIt itemsS (dVar 0)) (tgN 1) Lp_is_name_1) (retF (dC (.bl true)))))
def F_is_name : List D → Res D := runF 2 false Fb_is_name
def Lp_node_at_1 : Rho → SR := (seqF (ifF (dOr (dT (dUn (isiD "str") (dVar 2))) (dNot (dT (dChain leD ltD (dC (.int 0)) (dVar 3) (dCall (g1 lenD) (dCons (dOp ixD (dVar 2) (dC (.int 2))) dNil)))))) (raiF "NoPlace" ["place"] false (dCons (dVar 1) dNil)) .nx) (setF 2 (dOp ixD (dOp ixD (dVar 2) (dC (.int 2))) (dVar 3))))
def Fb_node_at : Rho → SR := (seqF (setF 2 (dVar 0)) (seqF (forF (dIt itemsT (dVar 1)) (tgN 3) Lp_node_at_1) (retF (dVar 2))))
def F_node_at : List D → Res D := runF 4 false Fb_node_at
def Fb_read_test : Rho → SR := (seqF (asgF (tgT 3 (tgCons (tgN 1) (tgCons (tgN 2) (tgCons (tgN 3) tgNil)))) (dStr partD (dVar 0) (dC (.str (Sg [46]))))) (seqF (ifF (dAnd (dT (dOp neD (dVar 1) (dC (.str (Sg [42]))))) (dNot (dT (dCall F_is_name (dCons (dVar 1) dNil))))) (retF (dC .non)) .nx) (seqF (ifF (dAnd (dT (dOp neD (dVar 2) (dC (.str (Sg []))))) (dNot (dT (dCall F_is_name (dCons (dVar 3) dNil))))) (retF (dC .non)) .nx) (retF (dTup (dCons (dVar 1) (dCons (dVar 3) dNil)))))))
def F_read_test : List D → Res D := runF 4 false Fb_read_test
def Lp_read_pattern_1 : Rho → SR := (seqF (ifF (dAnd (dT (dUn (mdIn false md_LINKS) (dVar 4))) (dT (dOp eqD (dVar 3) (dC (.str (Sg [97, 110, 99, 101, 115, 116, 111, 114])))))) (seqF (setF 3 (dUn (mdGet md_LINKS) (dVar 4))) .ct) .nx) (seqF (setF 5 (dCall F_read_test (dCons (dVar 4) dNil))) (seqF (ifF (dT (dOp (isD false) (dVar 5) (dC .non))) (retF (dC .non)) .nx) (seqF (appF 1 (dVar 5)) (seqF (appF 2 (dVar 3)) (setF 3 (dC (.str (Sg [97, 110, 99, 101, 115, 116, 111, 114])))))))))
def Fb_read_pattern : Rho → SR := (seqF (setF 1 (dLst dNil)) (seqF (setF 2 (dLst dNil)) (seqF (setF 3 (dC (.str (Sg [115, 116, 97, 114, 116])))) (seqF (forF (dIt itemsL (dStr splitD (dVar 0) (dC (.str (Sg [32]))))) (tgN 4) Lp_read_pattern_1) (seqF (ifF (dOr (dT (dOp neD (dVar 3) (dC (.str (Sg [97, 110, 99, 101, 115, 116, 111, 114]))))) (dT (dOp gtD (dCall (g1 lenD) (dCons (dVar 1) dNil)) (dC (.int 4))))) (retF (dC .non)) .nx) (retF (dTup (dCons (dCall (g1 tupleD) (dCons (dVar 1) dNil)) (dCons (dCall (g1 tupleD) (dCons (dVar 2) dNil)) dNil)))))))))
def F_read_pattern : List D → Res D := runF 6 false Fb_read_pattern
def Lp_Points_init_1 : Rho → SR := (seqF (appF 2 (dTup (dCons (dVar 7) (dCons (dVar 5) dNil)))) (seqF (putF 4 (dVar 8) (dOp addD (dOp getZ (dVar 4) (dVar 8)) (dVar 5))) (setF 5 (dOp mulX (dVar 5) (dC (.int 2))))))
def Lp_Points_init_2 : Rho → SR := (seqF (forF (dIts zipTT (dCons (dUn (fldD "Pattern" "tests") (dVar 6)) (dCons (dUn (fldD "Pattern" "links") (dVar 6)) dNil))) (tgT 2 (tgCons (tgN 7) (tgCons (tgN 8) tgNil))) Lp_Points_init_1) (appF 3 (dOp fdivD (dVar 5) (dC (.int 2)))))
def Fb_Points_init : Rho → SR := (seqF (setF 2 (dLst dNil)) (seqF (setF 3 (dLst dNil)) (seqF (setF 4 (dDisp [((dC (.str (Sg [115, 116, 97, 114, 116]))), (dC (.int 0))), ((dC (.str (Sg [97, 110, 99, 101, 115, 116, 111, 114]))), (dC (.int 0))), ((dC (.str (Sg [112, 97, 114, 101, 110, 116]))), (dC (.int 0))), ((dC (.str (Sg [101, 108, 100, 101, 114]))), (dC (.int 0)))])) (seqF (setF 5 (dC (.int 1))) (seqF (forF (dIt itemsL (dVar 1)) (tgN 6) Lp_Points_init_2) (seqF (fstF 0 "Points" "tests" (dVar 2)) (seqF (fstF 0 "Points" "linked" (dVar 4)) (fstF 0 "Points" "ends" (dVar 3)))))))))
def F_Points_init : List D → Res D := runI 9 "Points" Fb_Points_init
def Lp_Points_passed_1 : Rho → SR := (ifF (dAnd (dT (dOp inD (dOp ixD (dVar 4) (dC (.int 0))) (dTup (dCons (dC (.str (Sg [42]))) (dCons (dVar 1) dNil))))) (dT (dOp inD (dOp ixD (dVar 4) (dC (.int 1))) (dTup (dCons (dC (.str (Sg []))) (dCons (dVar 2) dNil)))))) (setF 3 (dOp addD (dVar 3) (dVar 5))) .nx)
def Fb_Points_passed : Rho → SR := (seqF (setF 3 (dC (.int 0))) (seqF (forF (dIt itemsL (dUn (fldD "Points" "tests") (dVar 0))) (tgT 2 (tgCons (tgN 4) (tgCons (tgN 5) tgNil))) Lp_Points_passed_1) (retF (dVar 3))))
def F_Points_passed : List D → Res D := runF 6 false Fb_Points_passed
def Fb_Points_here : Rho → SR := (seqF (setF 5 (dOp getZ (dUn (fldD "Points" "linked") (dVar 0)) (dC (.str (Sg [115, 116, 97, 114, 116]))))) (seqF (setF 5 (dOp (intsD Builtin.bitOr) (dVar 5) (dOp (intsD Builtin.bitAnd) (dOp mulX (dVar 2) (dC (.int 2))) (dOp getZ (dUn (fldD "Points" "linked") (dVar 0)) (dC (.str (Sg [97, 110, 99, 101, 115, 116, 111, 114]))))))) (seqF (setF 5 (dOp (intsD Builtin.bitOr) (dVar 5) (dOp (intsD Builtin.bitAnd) (dOp mulX (dVar 3) (dC (.int 2))) (dOp getZ (dUn (fldD "Points" "linked") (dVar 0)) (dC (.str (Sg [112, 97, 114, 101, 110, 116]))))))) (seqF (setF 5 (dOp (intsD Builtin.bitOr) (dVar 5) (dOp (intsD Builtin.bitAnd) (dOp mulX (dVar 4) (dC (.int 2))) (dOp getZ (dUn (fldD "Points" "linked") (dVar 0)) (dC (.str (Sg [101, 108, 100, 101, 114]))))))) (retF (dOp (intsD Builtin.bitAnd) (dVar 5) (dVar 1)))))))
def F_Points_here : List D → Res D := runF 6 false Fb_Points_here
def Lp_Points_bits_at_1 : Rho → SR := (ifF (dNot (dT (dUn (isiD "str") (dVar 8)))) (setF 5 (dMeth "Points" "here" F_Points_here (dVar 0) (dCons (dMeth "Points" "passed" F_Points_passed (dVar 0) (dCons (dOp ixD (dVar 8) (dC (.int 0))) (dCons (dOp ixD (dVar 8) (dC (.int 1))) dNil))) (dCons (dVar 4) (dCons (dVar 7) (dCons (dVar 5) dNil)))))) .nx)
def Lp_Points_bits_at_2 : Rho → SR := (seqF (parF 7 4 (dVar 5) (dOp (intsD Builtin.bitOr) (dVar 4) (dVar 5))) (seqF (setF 5 (dC (.int 0))) (seqF (forF (dIt itemsT (dSl slD (dOp ixD (dVar 3) (dC (.int 2))) dNoP (dPart (dOp addD (dVar 6) (dC (.int 1)))))) (tgN 8) Lp_Points_bits_at_1) (setF 3 (dOp ixD (dOp ixD (dVar 3) (dC (.int 2))) (dVar 6))))))
def Fb_Points_bits_at : Rho → SR := (seqF (ifF (dT (dUn (isiD "str") (dCall F_node_at (dCons (dVar 1) (dCons (dVar 2) dNil))))) (raiF "NoPlace" ["place"] false (dCons (dVar 2) dNil)) .nx) (seqF (parF 3 4 (dVar 1) (dC (.int 0))) (seqF (setF 5 (dMeth "Points" "here" F_Points_here (dVar 0) (dCons (dMeth "Points" "passed" F_Points_passed (dVar 0) (dCons (dOp ixD (dVar 3) (dC (.int 0))) (dCons (dOp ixD (dVar 3) (dC (.int 1))) dNil))) (dCons (dC (.int 0)) (dCons (dC (.int 0)) (dCons (dC (.int 0)) dNil)))))) (seqF (forF (dIt itemsT (dVar 2)) (tgN 6) Lp_Points_bits_at_2) (retF (dVar 5))))))
def F_Points_bits_at : List D → Res D := runF 9 false Fb_Points_bits_at
def Fb_Pattern_init : Rho → SR := (seqF (setF 2 (dCall F_read_pattern (dCons (dVar 1) dNil))) (seqF (ifF (dT (dOp (isD false) (dVar 2) (dC .non))) (raiF "BadPattern" ["text"] false (dCons (dVar 1) dNil)) .nx) (seqF (fstF 0 "Pattern" "text" (dVar 1)) (seqF (fstF 0 "Pattern" "tests" (dOp ixD (dVar 2) (dC (.int 0)))) (fstF 0 "Pattern" "links" (dOp ixD (dVar 2) (dC (.int 1))))))))
def F_Pattern_init : List D → Res D := runI 3 "Pattern" Fb_Pattern_init
def Fb_Pattern_call : Rho → SR := (seqF (setF 3 (dCall F_Points_init (dCons (dLst (dCons (dVar 0) dNil)) dNil))) (retF (dOp neD (dOp (intsD Builtin.bitAnd) (dMeth "Points" "bits_at" F_Points_bits_at (dVar 3) (dCons (dVar 1) (dCons (dVar 2) dNil))) (dOp ixD (dUn (fldD "Points" "ends") (dVar 3)) (dC (.int 0)))) (dC (.int 0)))))
def F_Pattern_call : List D → Res D := runF 4 false Fb_Pattern_call
def Fb_l_cell : Rho → SR := (seqF (ifF (dT (dOp ltD (dVar 1) (dCall (g1 lenD) (dCons (dVar 0) dNil)))) (retF (dCall (g1 intD) (dCons (dOp ixD (dVar 0) (dVar 1)) dNil))) .nx) (retF (dOp addD (dOp mulX (dC (.int 7)) (dVar 1)) (dC (.int 1)))))
def F_l_cell : List D → Res D := runF 2 false Fb_l_cell
def Lp_l_row_1 : Rho → SR := (seqF (appF 2 (dOp modD (dCall (g1 intD) (dCons (dVar 3) dNil)) (dVar 4))) (setF 3 (dOp fdivD (dVar 3) (dVar 4))))
def Lp_l_row_2 : Rho → SR := (seqF (setF 6 (dOp modD (dCall (g1 intD) (dCons (dOp addD (dOp addD (dOp mulX (dVar 0) (dC (.int 48271))) (dOp mulX (dVar 5) (dC (.int 69621)))) (dC (.int 11))) dNil)) (dC (.int 2147483647)))) (seqF (setF 6 (dOp modD (dCall (g1 intD) (dCons (dOp addD (dOp addD (dOp mulX (dVar 6) (dOp addD (dC (.int 16807)) (dOp mulX (dC (.int 2)) (dVar 5)))) (dOp mulX (dOp mulX (dVar 5) (dVar 5)) (dC (.int 40692)))) (dC (.int 7))) dNil)) (dC (.int 2147483399)))) (appF 2 (dOp modD (dCall (g1 intD) (dCons (dOp fdivD (dVar 6) (dC (.int 31))) dNil)) (dOp ixD (dVar 1) (dVar 5))))))
def Fb_l_row : Rho → SR := (seqF (setF 2 (dLst dNil)) (seqF (ifF (dT (dOp geD (dVar 0) (dC (.int 1000000000000000000)))) (seqF (setF 3 (dOp subD (dVar 0) (dC (.int 1000000000000000000)))) (seqF (forF (dIt itemsL (dVar 1)) (tgN 4) Lp_l_row_1) (retF (dVar 2)))) .nx) (seqF (forF (dIts rng1 (dCons (dCall (g1 lenD) (dCons (dVar 1) dNil)) dNil)) (tgN 5) Lp_l_row_2) (retF (dVar 2)))))
def F_l_row : List D → Res D := runF 7 false Fb_l_row
def Fb_l_names : Rho → SR := (seqF (setF 2 (dCall F_l_row (dCons (dVar 0) (dCons (dLst (dCons (dC (.int 3)) (dCons (dC (.int 8)) (dCons (dC (.int 8)) (dCons (dC (.int 26)) (dCons (dC (.int 26)) (dCons (dC (.int 26)) (dCons (dC (.int 26)) (dCons (dC (.int 26)) (dCons (dC (.int 26)) (dCons (dC (.int 26)) (dCons (dC (.int 26)) (dCons (dC (.int 26)) dNil))))))))))))) dNil)))) (seqF (setF 3 (dC (.str (Sg [97, 98, 99, 100, 101, 102, 103, 104, 105, 106, 107, 108, 109, 110, 111, 112, 113, 114, 115, 116, 117, 118, 119, 120, 121, 122])))) (seqF (ifF (dT (dOp eqD (dOp ixD (dVar 2) (dC (.int 0))) (dC (.int 0)))) (retF (dSl slD (dLst (dCons (dC (.str (Sg [100, 111, 99]))) (dCons (dC (.str (Sg [112, 97, 114]))) (dCons (dC (.str (Sg [101, 109]))) (dCons (dC (.str (Sg [104, 101, 97, 100]))) (dCons (dC (.str (Sg [110, 111, 116, 101]))) (dCons (dC (.str (Sg [97]))) (dCons (dC (.str (Sg [98]))) (dCons (dC (.str (Sg [120]))) dNil))))))))) dNoP (dPart (dVar 1)))) .nx) (seqF (setF 4 (dStr joinD (dC (.str (Sg []))) (dLc (dIt itemsL (dSl slD (dVar 2) (dPart (dC (.int 4))) dNoP)) (tgN 5) dYes (dOp ixD (dVar 3) (dVar 5)) [5]))) (seqF (ifF (dT (dOp eqD (dOp ixD (dVar 2) (dC (.int 0))) (dC (.int 1)))) (retF (dLc (dIts rng1 (dCons (dVar 1) dNil)) (tgN 5) dYes (dSl slD (dVar 4) dNoP (dPart (dOp addD (dVar 5) (dC (.int 1))))) [5])) .nx) (seqF (setF 6 (dOp modD (dCall (g1 intD) (dCons (dOp ixD (dVar 2) (dC (.int 2))) dNil)) (dOp addD (dOp ixD (dVar 2) (dC (.int 1))) (dC (.int 1))))) (seqF (setF 7 (dSl slD (dVar 4) (dPart (dOp addD (dVar 6) (dC (.int 1)))) (dPart (dOp addD (dOp ixD (dVar 2) (dC (.int 1))) (dC (.int 1)))))) (retF (dLc (dIts rng1 (dCons (dVar 1) dNil)) (tgN 5) dYes (dOp addD (dOp addD (dSl slD (dVar 4) dNoP (dPart (dVar 6))) (dOp ixD (dVar 3) (dOp modD (dCall (g1 intD) (dCons (dOp addD (dOp ixD (dVar 2) (dC (.int 3))) (dVar 5)) dNil)) (dC (.int 26))))) (dVar 7)) [5])))))))))
def F_l_names : List D → Res D := runF 8 false Fb_l_names
def Lp_l_tree_1 : Rho → SR := (setF 3 (dOp addD (dVar 3) (dLst (dCons (dC (.int 4)) (dCons (dC (.int 3)) (dCons (dC (.int 4)) (dCons (dC (.int 3)) (dCons (dC (.int 3)) dNil))))))))
def Lp_l_tree_2 : Rho → SR := (seqF (setF 8 (dSl slD (dVar 5) (dPart (dOp addD (dOp mulX (dC (.int 5)) (dVar 4)) (dC (.int 4)))) (dPart (dOp addD (dOp mulX (dC (.int 5)) (dVar 4)) (dC (.int 9)))))) (seqF (ifF (dT (dOp gtD (dVar 4) (dC (.int 0)))) (setF 7 (dOp ixD (dLst (dCons (dOp addD (dVar 7) (dC (.int 1))) (dCons (dCall (g2 (intsD max2)) (dCons (dVar 7) (dCons (dC (.int 1)) dNil))) (dCons (dCall (g2 (intsD max2)) (dCons (dOp subD (dVar 7) (dC (.int 1))) (dCons (dC (.int 1)) dNil))) (dCons (dC (.int 1)) dNil))))) (dOp ixD (dVar 8) (dC (.int 0))))) .nx) (appF 6 (dTup (dCons (dVar 7) (dCons (dOp ixD (dVar 1) (dOp ixD (dVar 8) (dC (.int 1)))) (dCons (dOp ixD (dVar 2) (dOp ixD (dVar 8) (dC (.int 2)))) (dCons (dOp ixD (dVar 8) (dC (.int 3))) (dCons (dOp ixD (dVar 8) (dC (.int 4))) dNil)))))))))
def Lp_l_tree_3 : Rho → SR := (seqF (asgF (tgT 5 (tgCons (tgN 7) (tgCons (tgN 10) (tgCons (tgN 11) (tgCons (tgN 12) (tgCons (tgN 13) tgNil)))))) (dOp ixD (dVar 6) (dVar 4))) (seqF (setF 14 (dOp ixD (dVar 9) (dOp addD (dVar 7) (dC (.int 1))))) (seqF (ifF (dT (dOp eqD (dVar 13) (dC (.int 0)))) (setF 14 (dOp addD (dVar 14) (dTup (dCons (dC (.str (Sg [122, 32, 121]))) dNil)))) .nx) (seqF (stoF 9 (dOp addD (dVar 7) (dC (.int 1))) (dTup dNil)) (seqF (setF 15 (dTup (dCons (dTup (dCons (dVar 10) (dCons (dVar 11) (dCons (dVar 14) dNil)))) dNil))) (seqF (ifF (dT (dOp eqD (dVar 12) (dC (.int 0)))) (setF 15 (dOp addD (dTup (dCons (dC (.str (Sg [120, 32]))) dNil)) (dVar 15))) .nx) (stoF 9 (dVar 7) (dOp addD (dVar 15) (dOp ixD (dVar 9) (dVar 7))))))))))
def Lp_l_tree_4 : Rho → SR := (setF 16 (dTup (dCons (dOp ixD (dVar 1) (dC (.int 2))) (dCons (dOp ixD (dVar 2) (dC (.int 1))) (dCons (dTup (dCons (dVar 16) dNil)) dNil)))))
def Fb_l_tree : Rho → SR := (seqF (setF 3 (dLst (dCons (dC (.int 9)) (dCons (dC (.int 4)) (dCons (dC (.int 20)) (dCons (dC (.int 3)) dNil)))))) (seqF (forF (dIts rng1 (dCons (dC (.int 9)) dNil)) (tgN 4) Lp_l_tree_1) (seqF (setF 5 (dCall F_l_row (dCons (dVar 0) (dCons (dVar 3) dNil)))) (seqF (setF 6 (dLst dNil)) (seqF (setF 7 (dC (.int 0))) (seqF (forF (dIts rng1 (dCons (dOp addD (dOp ixD (dVar 5) (dC (.int 0))) (dC (.int 1))) dNil)) (tgN 4) Lp_l_tree_2) (seqF (setF 9 (dOp repL (dLst (dCons (dTup dNil) dNil)) (dOp addD (dCall (g1 lenD) (dCons (dVar 6) dNil)) (dC (.int 2))))) (seqF (forF (dIts rng3 (dCons (dOp subD (dCall (g1 lenD) (dCons (dVar 6) dNil)) (dC (.int 1))) (dCons (dUn negD (dC (.int 1))) (dCons (dUn negD (dC (.int 1))) dNil)))) (tgN 4) Lp_l_tree_3) (seqF (setF 16 (dOp ixD (dOp ixD (dVar 9) (dC (.int 0))) (dUn negD (dC (.int 1))))) (seqF (setF 17 (dTup (dCons (dOp ixD (dVar 1) (dC (.int 0))) (dCons (dC (.str (Sg []))) (dCons (dTup dNil) dNil))))) (seqF (ifF (dT (dOp eqD (dOp ixD (dVar 5) (dC (.int 1))) (dC (.int 0)))) (setF 16 (dTup (dCons (dOp ixD (dVar 16) (dC (.int 0))) (dCons (dOp ixD (dVar 16) (dC (.int 1))) (dCons (dOp addD (dCall (g1 tupleD) (dCons (dOp mulX (dLst (dCons (dVar 17) dNil)) (dOp ixD (dVar 5) (dC (.int 2)))) dNil)) (dOp ixD (dVar 16) (dC (.int 2)))) dNil))))) .nx) (seqF (forF (dIts rng1 (dCons (dOp ixD (dVar 5) (dC (.int 3))) dNil)) (tgN 4) Lp_l_tree_4) (retF (dVar 16))))))))))))))
def F_l_tree : List D → Res D := runF 18 false Fb_l_tree
def Lp_l_nodes_1 : Rho → SR := (seqF (appF 3 (dTup (dCons (dOp ixD (dOp ixD (dVar 4) (dC (.int 2))) (dVar 8)) (dCons (dOp addD (dVar 5) (dTup (dCons (dVar 8) dNil))) (dCons (dVar 7) dNil))))) (ifF (dNot (dT (dUn (isiD "str") (dOp ixD (dOp ixD (dVar 4) (dC (.int 2))) (dVar 8))))) (setF 7 (dOp addD (dVar 5) (dTup (dCons (dVar 8) dNil)))) .nx))
def Lp_l_nodes_2 : Rho → SR := (seqF (popF 3 (tgT 3 (tgCons (tgN 4) (tgCons (tgN 5) (tgCons (tgN 6) tgNil))))) (seqF (ifF (dT (dUn (isiD "str") (dVar 4))) (seqF (appF 2 (dVar 5)) .ct) .nx) (seqF (putT 1 (dVar 5) (dTup (dCons (dOp ixD (dVar 4) (dC (.int 0))) (dCons (dOp ixD (dVar 4) (dC (.int 1))) (dCons (dVar 6) (dCons (dCall (g1 lenD) (dCons (dOp ixD (dVar 4) (dC (.int 2))) dNil)) dNil)))))) (seqF (setF 7 (dC .non)) (forF (dIts rng1 (dCons (dCall (g1 lenD) (dCons (dOp ixD (dVar 4) (dC (.int 2))) dNil)) dNil)) (tgN 8) Lp_l_nodes_1)))))
def Fb_l_nodes : Rho → SR := (seqF (setF 1 dT0) (seqF (setF 2 (dLst dNil)) (seqF (setF 3 (dLst (dCons (dTup (dCons (dVar 0) (dCons (dTup dNil) (dCons (dC .non) dNil)))) dNil))) (seqF (whileN (dT (dOp gtD (dCall (g1 lenD) (dCons (dVar 3) dNil)) (dC (.int 0)))) Lp_l_nodes_2 100000) (retF (dLst (dCons (dVar 1) (dCons (dVar 2) dNil))))))))
def F_l_nodes : List D → Res D := runF 9 false Fb_l_nodes
def Lp_l_fits_1 (Fself : List D → Res D) : Rho → SR := (ifF (dT (dCall Fself (dCons (dVar 0) (dCons (dVar 1) (dCons (dVar 2) (dCons (dSl slD (dVar 3) dNoP (dPart (dVar 9))) (dCons (dOp subD (dVar 4) (dC (.int 1))) dNil))))))) (retF (dC (.bl true))) .nx)
def Fb_l_fits (Fself : List D → Res D) : Rho → SR := (seqF (asgF (tgT 4 (tgCons (tgN 5) (tgCons (tgN 6) (tgCons (tgN 7) (tgCons (tgN 8) tgNil))))) (dOp getZ (dVar 0) (dVar 3))) (seqF (ifF (dAnd (dT (dOp neD (dOp ixD (dOp ixD (dVar 1) (dVar 4)) (dC (.int 0))) (dC (.str (Sg [42]))))) (dT (dOp neD (dOp ixD (dOp ixD (dVar 1) (dVar 4)) (dC (.int 0))) (dVar 5)))) (retF (dC (.bl false))) .nx) (seqF (ifF (dAnd (dT (dOp neD (dOp ixD (dOp ixD (dVar 1) (dVar 4)) (dC (.int 1))) (dC (.str (Sg []))))) (dT (dOp neD (dOp ixD (dOp ixD (dVar 1) (dVar 4)) (dC (.int 1))) (dVar 6)))) (retF (dC (.bl false))) .nx) (seqF (ifF (dT (dOp eqD (dVar 4) (dC (.int 0)))) (retF (dC (.bl true))) .nx) (seqF (ifF (dT (dOp eqD (dOp ixD (dVar 2) (dOp subD (dVar 4) (dC (.int 1)))) (dC (.str (Sg [32, 43, 32]))))) (retF (dAndV (dOp (isD true) (dVar 7) (dC .non)) (dCall Fself (dCons (dVar 0) (dCons (dVar 1) (dCons (dVar 2) (dCons (dVar 7) (dCons (dOp subD (dVar 4) (dC (.int 1))) dNil)))))))) .nx) (seqF (ifF (dT (dOp eqD (dOp ixD (dVar 2) (dOp subD (dVar 4) (dC (.int 1)))) (dC (.str (Sg [32, 62, 32]))))) (retF (dAndV (dOp neD (dVar 3) (dTup dNil)) (dCall Fself (dCons (dVar 0) (dCons (dVar 1) (dCons (dVar 2) (dCons (dSl slD (dVar 3) dNoP (dPart (dUn negD (dC (.int 1))))) (dCons (dOp subD (dVar 4) (dC (.int 1))) dNil)))))))) .nx) (seqF (forF (dIts rng1 (dCons (dCall (g1 lenD) (dCons (dVar 3) dNil)) dNil)) (tgN 9) (Lp_l_fits_1 Fself)) (retF (dC (.bl false))))))))))
def F_l_fits : Nat → List D → Res D
  | 0 => fun _ => .bad
  | n + 1 => runF 10 false (Fb_l_fits (F_l_fits n))
def Lp_l_aimed_1 : Rho → SR := (seqF (asgF (tgT 4 (tgCons (tgN 8) (tgCons (tgN 9) (tgCons (tgN 10) (tgCons (tgN 11) tgNil))))) (dOp getZ (dVar 1) (dVar 4))) (seqF (ifF (dT (dOp eqD (dOp ixD (dVar 2) (dOp addD (dOp mulX (dC (.int 4)) (dVar 7)) (dC (.int 4)))) (dC (.int 0)))) (setF 8 (dC (.str (Sg [42])))) .nx) (seqF (ifF (dT (dOp eqD (dOp ixD (dVar 2) (dOp addD (dOp mulX (dC (.int 4)) (dVar 7)) (dC (.int 5)))) (dC (.int 0)))) (setF 9 (dC (.str (Sg [])))) .nx) (seqF (setF 5 (dOp addD (dLst (dCons (dTup (dCons (dVar 8) (dCons (dVar 9) dNil))) dNil)) (dVar 5))) (ifF (dAnd (dT (dOp eqD (dOp ixD (dVar 2) (dOp addD (dOp mulX (dC (.int 4)) (dVar 7)) (dC (.int 2)))) (dC (.int 0)))) (dT (dOp (isD true) (dVar 10) (dC .non)))) (seqF (setF 6 (dOp addD (dLst (dCons (dC (.str (Sg [32, 43, 32]))) dNil)) (dVar 6))) (setF 4 (dVar 10))) (ifF (dT (dOp eqD (dVar 4) (dTup dNil))) .bk (ifF (dT (dOp eqD (dOp ixD (dVar 2) (dOp addD (dOp mulX (dC (.int 4)) (dVar 7)) (dC (.int 2)))) (dC (.int 1)))) (seqF (setF 6 (dOp addD (dLst (dCons (dC (.str (Sg [32, 62, 32]))) dNil)) (dVar 6))) (setF 4 (dSl slD (dVar 4) dNoP (dPart (dUn negD (dC (.int 1))))))) (seqF (setF 6 (dOp addD (dLst (dCons (dC (.str (Sg [32]))) dNil)) (dVar 6))) (setF 4 (dSl slD (dVar 4) dNoP (dPart (dOp modD (dCall (g1 intD) (dCons (dOp ixD (dVar 2) (dOp addD (dOp mulX (dC (.int 4)) (dVar 7)) (dC (.int 3)))) dNil)) (dCall (g1 lenD) (dCons (dVar 4) dNil))))))))))))))
def Fb_l_aimed : Rho → SR := (seqF (setF 2 (dCall F_l_row (dCons (dVar 0) (dCons (dLst (dCons (dC (.int 60)) (dCons (dC (.int 4)) (dCons (dC (.int 3)) (dCons (dC (.int 12)) (dCons (dC (.int 3)) (dCons (dC (.int 2)) (dCons (dC (.int 3)) (dCons (dC (.int 12)) (dCons (dC (.int 3)) (dCons (dC (.int 2)) (dCons (dC (.int 3)) (dCons (dC (.int 12)) (dCons (dC (.int 3)) (dCons (dC (.int 2)) (dCons (dC (.int 3)) (dCons (dC (.int 12)) (dCons (dC (.int 3)) (dCons (dC (.int 2)) dNil))))))))))))))))))) dNil)))) (seqF (setF 3 (dCall (g1 listT) (dCons (dVar 1) dNil))) (seqF (setF 4 (dOp ixD (dVar 3) (dOp modD (dCall (g1 intD) (dCons (dOp ixD (dVar 2) (dC (.int 0))) dNil)) (dCall (g1 lenD) (dCons (dVar 3) dNil))))) (seqF (setF 5 (dLst dNil)) (seqF (setF 6 (dLst dNil)) (seqF (forF (dIts rng1 (dCons (dOp addD (dOp ixD (dVar 2) (dC (.int 1))) (dC (.int 1))) dNil)) (tgN 7) Lp_l_aimed_1) (retF (dLst (dCons (dVar 5) (dCons (dSl slD (dVar 6) (dPart (dOp addD (dOp subD (dCall (g1 lenD) (dCons (dVar 6) dNil)) (dCall (g1 lenD) (dCons (dVar 5) dNil))) (dC (.int 1)))) dNoP) dNil))))))))))
def F_l_aimed : List D → Res D := runF 12 false Fb_l_aimed
def Fb_l_free : Rho → SR := (seqF (setF 3 (dCall F_l_row (dCons (dVar 0) (dCons (dLst (dCons (dC (.int 4)) (dCons (dC (.int 5)) (dCons (dC (.int 4)) (dCons (dC (.int 3)) (dCons (dC (.int 5)) (dCons (dC (.int 4)) (dCons (dC (.int 3)) (dCons (dC (.int 5)) (dCons (dC (.int 4)) (dCons (dC (.int 3)) (dCons (dC (.int 5)) (dCons (dC (.int 4)) (dCons (dC (.int 3)) dNil)))))))))))))) dNil)))) (seqF (setF 4 (dLc (dIts rng1 (dCons (dOp addD (dOp ixD (dVar 3) (dC (.int 0))) (dC (.int 1))) dNil)) (tgN 5) dYes (dTup (dCons (dOp ixD (dVar 1) (dOp ixD (dVar 3) (dOp addD (dOp mulX (dC (.int 3)) (dVar 5)) (dC (.int 1))))) (dCons (dOp ixD (dVar 2) (dOp ixD (dVar 3) (dOp addD (dOp mulX (dC (.int 3)) (dVar 5)) (dC (.int 2))))) dNil))) [5])) (retF (dLst (dCons (dVar 4) (dCons (dLc (dIts rng1 (dCons (dOp ixD (dVar 3) (dC (.int 0))) dNil)) (tgN 5) dYes (dOp ixD (dLst (dCons (dC (.str (Sg [32]))) (dCons (dC (.str (Sg [32, 62, 32]))) (dCons (dC (.str (Sg [32, 43, 32]))) dNil)))) (dOp ixD (dVar 3) (dOp addD (dOp mulX (dC (.int 3)) (dVar 5)) (dC (.int 3))))) [5]) dNil))))))
def F_l_free : List D → Res D := runF 6 false Fb_l_free
def Lp_l_written_1 : Rho → SR := (seqF (ifF (dT (dOp gtD (dVar 3) (dC (.int 0)))) (setF 2 (dOp addD (dVar 2) (dOp ixD (dVar 1) (dOp subD (dVar 3) (dC (.int 1)))))) .nx) (seqF (setF 2 (dOp addD (dVar 2) (dOp ixD (dOp ixD (dVar 0) (dVar 3)) (dC (.int 0))))) (ifF (dT (dOp neD (dOp ixD (dOp ixD (dVar 0) (dVar 3)) (dC (.int 1))) (dC (.str (Sg []))))) (setF 2 (dOp addD (dOp addD (dVar 2) (dC (.str (Sg [46])))) (dOp ixD (dOp ixD (dVar 0) (dVar 3)) (dC (.int 1))))) .nx)))
def Fb_l_written : Rho → SR := (seqF (setF 2 (dC (.str (Sg [])))) (seqF (forF (dIts rng1 (dCons (dCall (g1 lenD) (dCons (dVar 0) dNil)) dNil)) (tgN 3) Lp_l_written_1) (retF (dVar 2))))
def F_l_written : List D → Res D := runF 4 false Fb_l_written
def Lp_l_right_1 : Rho → SR := (seqF (setF 6 (dCallO "Pattern" F_Pattern_call (dVar 0) (dCons (dVar 1) (dCons (dVar 5) dNil)))) (seqF (ifF (dNot (dT (dUn (isiD "bool") (dVar 6)))) (retF (dC (.bl false))) .nx) (ifF (dT (dOp neD (dVar 6) (dCall (F_l_fits 5) (dCons (dVar 2) (dCons (dOp ixD (dVar 3) (dC (.int 0))) (dCons (dOp ixD (dVar 3) (dC (.int 1))) (dCons (dVar 5) (dCons (dOp subD (dCall (g1 lenD) (dCons (dOp ixD (dVar 3) (dC (.int 0))) dNil)) (dC (.int 1))) dNil)))))))) (retF (dC (.bl false))) .nx)))
def Fb_l_right : Rho → SR := (seqF (forF (dIt itemsL (dVar 4)) (tgN 5) Lp_l_right_1) (retF (dC (.bl true))))
def F_l_right : List D → Res D := runF 7 false Fb_l_right
def Fb_l_no_place : Rho → SR := (seqF (tryF isM_NoPlace 3 (dropF (dCallO "Pattern" F_Pattern_call (dVar 0) (dCons (dVar 1) (dCons (dVar 2) dNil)))) (seqF (ifF (dOr (dT (dIsX isM_BadPattern 3)) (dOr (dNot (dT (dIsX isM_LaidError 3))) (dNot (dT (dIsX isM_ValueError 3))))) (retF (dC (.bl false))) .nx) (retF (dAndV (dUn (isiD "tuple") (dXf 3 "place")) (dOp eqD (dXf 3 "place") (dVar 2)))))) (retF (dC (.bl false))))
def F_l_no_place : List D → Res D := runF 4 false Fb_l_no_place
def Lp_law_1 : Rho → SR := (appF 11 (dOp addD (dVar 12) (dTup (dCons (dC (.int 0)) dNil))))
def Lp_law_2 : Rho → SR := (ifF (dNot (dT (dCall F_l_no_place (dCons (dVar 15) (dCons (dVar 3) (dCons (dVar 12) dNil)))))) (retF (dC (.bl false))) .nx)
def Lp_law_3 : Rho → SR := (seqF (setF 15 (dCall F_Pattern_init (dCons (dCall F_l_written (dCons (dOp ixD (dVar 14) (dC (.int 0))) (dCons (dOp ixD (dVar 14) (dC (.int 1))) dNil))) dNil))) (seqF (ifF (dNot (dT (dCall F_l_right (dCons (dVar 15) (dCons (dVar 3) (dCons (dVar 7) (dCons (dVar 14) (dCons (dVar 10) dNil)))))))) (retF (dC (.bl false))) .nx) (seqF (ifF (dNot (dT (dCall F_l_right (dCons (dVar 15) (dCons (dVar 5) (dCons (dVar 9) (dCons (dVar 14) (dCons (dCall (g1 listT) (dCons (dVar 9) dNil)) dNil)))))))) (retF (dC (.bl false))) .nx) (seqF (ifF (dNot (dT (dCall F_l_right (dCons (dVar 15) (dCons (dVar 3) (dCons (dVar 7) (dCons (dVar 14) (dCons (dSl slD (dVar 10) (dPart (dOp subD (dCall (g1 lenD) (dCons (dVar 10) dNil)) (dC (.int 2)))) dNoP) dNil)))))))) (retF (dC (.bl false))) .nx) (forF (dIt itemsL (dVar 11)) (tgN 12) Lp_law_2)))))
def Fb_law : Rho → SR := (seqF (setF 1 (dCall F_l_names (dCons (dCall F_l_cell (dCons (dVar 0) (dCons (dC (.int 0)) dNil))) (dCons (dC (.int 6)) dNil)))) (seqF (setF 2 (dLst (dCons (dC (.str (Sg []))) (dCons (dOp ixD (dVar 1) (dC (.int 4))) (dCons (dOp ixD (dVar 1) (dC (.int 0))) (dCons (dOp ixD (dVar 1) (dC (.int 5))) dNil)))))) (seqF (setF 3 (dCall F_l_tree (dCons (dCall F_l_cell (dCons (dVar 0) (dCons (dC (.int 1)) dNil))) (dCons (dSl slD (dVar 1) dNoP (dPart (dC (.int 3)))) (dCons (dVar 2) dNil))))) (seqF (setF 4 (dCall (g1 lenD) (dCons (dOp ixD (dVar 3) (dC (.int 2))) dNil))) (seqF (setF 5 (dTup (dCons (dOp ixD (dVar 3) (dC (.int 0))) (dCons (dOp ixD (dVar 3) (dC (.int 1))) (dCons (dCall (g1 tupleD) (dCons (dLc (dIts rng1 (dCons (dVar 4) dNil)) (tgN 6) dYes (dOp ixD (dOp ixD (dVar 3) (dC (.int 2))) (dOp subD (dOp subD (dVar 4) (dC (.int 1))) (dVar 6))) [6]) dNil)) dNil))))) (seqF (asgF (tgTL 2 (tgCons (tgN 7) (tgCons (tgN 8) tgNil))) (dCall F_l_nodes (dCons (dVar 3) dNil))) (seqF (setF 9 (dOp ixD (dCall F_l_nodes (dCons (dVar 5) dNil)) (dC (.int 0)))) (seqF (setF 10 (dCall (g1 listT) (dCons (dVar 7) dNil))) (seqF (setF 11 (dOp addL (dLc (dIt itemsL (dSl slD (dVar 10) dNoP (dPart (dC (.int 3))))) (tgN 12) dYes (dOp addD (dVar 12) (dTup (dCons (dOp ixD (dOp getZ (dVar 7) (dVar 12)) (dC (.int 3))) dNil))) [12]) (dVar 8))) (seqF (forF (dIt itemsL (dSl slD (dVar 8) dNoP (dPart (dC (.int 2))))) (tgN 12) Lp_law_1) (seqF (setF 13 (dLst (dCons (dCall F_l_aimed (dCons (dCall F_l_cell (dCons (dVar 0) (dCons (dC (.int 2)) dNil))) (dCons (dVar 7) dNil))) (dCons (dCall F_l_aimed (dCons (dCall F_l_cell (dCons (dVar 0) (dCons (dC (.int 3)) dNil))) (dCons (dVar 7) dNil))) dNil)))) (seqF (appF 13 (dCall F_l_free (dCons (dCall F_l_cell (dCons (dVar 0) (dCons (dC (.int 4)) dNil))) (dCons (dOp addD (dSl slD (dVar 1) dNoP (dPart (dC (.int 4)))) (dLst (dCons (dC (.str (Sg [42]))) dNil))) (dCons (dVar 2) dNil))))) (seqF (forF (dIt itemsL (dVar 13)) (tgN 14) Lp_law_3) (retF (dC (.bl true))))))))))))))))
def F_law : List D → Res D := runF 16 false Fb_law
end
end Lk
end S_P_data
section S_MM_pa
set_option Elab.async false
set_option linter.all false
set_option maxHeartbeats 2000000
set_option maxRecDepth 100000
namespace Lk
open PySem L2 Dx
local macro_rules
  | `(tactic| array_get_dec) => `(tactic| repeat (first
    | ((with_reducible apply Dx.rs_asSJ); · (first | omega | (simp only [List.length_append, List.length_cons, List.length_nil, List.length_map, List.length_range, List.length_replicate, List.length_reverse, List.length_take, List.length_drop]; omega)))
    | with_reducible refine Dx.rs_c ?_
    | with_reducible refine Dx.rs_op ?_
    | with_reducible refine Dx.rs_str ?_
    | with_reducible refine Dx.rs_asS ?_
    | with_reducible refine Dx.rs_un ?_
    | with_reducible refine Dx.rs_nil ?_
    | with_reducible refine Dx.rs_cons ?_
    | with_reducible refine Dx.rs_call ?_
    | with_reducible refine Dx.rs_T ?_
    | with_reducible refine Dx.rs_asB ?_
    | with_reducible refine Dx.rs_asI ?_
    | with_reducible refine Dx.rs_not ?_
    | with_reducible refine Dx.rs_and ?_
    | with_reducible refine Dx.rs_or ?_
    | with_reducible refine Dx.rs_andV ?_
    | with_reducible refine Dx.rs_orV ?_
    | with_reducible refine Dx.rs_notV ?_
    | with_reducible refine Dx.rs_chain ?_
    | with_reducible refine Dx.rs_noP ?_
    | with_reducible refine Dx.rs_part ?_
    | with_reducible refine Dx.rs_sl ?_
    | with_reducible refine Dx.rs_it ?_
    | with_reducible refine Dx.rs_its ?_
    | with_reducible refine Dx.rs_yes ?_
    | with_reducible refine Dx.rs_meth ?_
    | with_reducible refine Dx.rs_tru ?_
    | with_reducible refine Dx.rs_truB ?_
    | with_reducible refine Dx.rs_truI ?_
    | with_reducible refine Dx.rs_truL ?_
    | with_reducible refine Dx.rs_truT ?_
    | with_reducible refine Dx.rs_truN ?_
    | with_reducible refine Dx.rs_ifx ?_
    | with_reducible refine Dx.rs_add ?_
    | with_reducible refine Dx.rs_sub ?_
    | with_reducible refine Dx.rs_neg ?_
    | with_reducible refine Dx.rs_eqI ?_
    | with_reducible refine Dx.rs_neI ?_
    | with_reducible refine Dx.rs_eqS ?_
    | with_reducible refine Dx.rs_neS ?_
    | with_reducible refine Dx.rs_eqB ?_
    | with_reducible refine Dx.rs_neB ?_
    | with_reducible refine Dx.rs_lt ?_
    | with_reducible refine Dx.rs_le ?_
    | with_reducible refine Dx.rs_gt ?_
    | with_reducible refine Dx.rs_ge ?_
    | with_reducible refine Dx.rs_is ?_
    | with_reducible refine Dx.rs_isn ?_
    | with_reducible refine Dx.rs_inS ?_
    | with_reducible refine Dx.rs_ninS ?_
    | with_reducible refine Dx.rs_lenL ?_
    | with_reducible refine Dx.rs_lenF ?_
    | with_reducible refine Dx.rs_lenT ?_
    | with_reducible refine Dx.rs_int ?_
    | with_reducible refine Dx.rs_intB ?_
    | with_reducible refine Dx.rs_abs ?_
    | with_reducible refine Dx.rs_listL ?_
    | with_reducible refine Dx.rs_listT ?_
    | with_reducible refine Dx.rs_tupL ?_
    | with_reducible refine Dx.rs_tupT ?_
    | with_reducible refine Dx.rs_slL ?_
    | with_reducible refine Dx.rs_slO ?_
    | with_reducible refine Dx.rs_slT ?_
    | with_reducible refine Dx.rs_itsL ?_
    | with_reducible refine Dx.rs_itsT ?_
    | with_reducible refine Dx.rs_itsS ?_
    | with_reducible refine Dx.rs_enL ?_
    | with_reducible refine Dx.rs_enT ?_
    | with_reducible refine Dx.rs_enS ?_
    | with_reducible refine Dx.rs_ints ?_
    | with_reducible refine Dx.rs_sortI ?_
    | with_reducible refine Dx.rs_sum ?_
    | with_reducible refine Dx.rs_g2 ?_
    | with_reducible refine Dx.rs_all ?_
    | with_reducible refine Dx.rs_disp ?_
    | with_reducible refine Dx.rs_pnil ?_
    | with_reducible refine Dx.rs_pcons ?_
    | with_reducible refine Dx.rs_jnil ?_
    | with_reducible refine Dx.rs_jcons ?_
    | with_reducible refine Dx.rs_dJoin ?_
    | with_reducible refine Dx.rs_ord ?_
    | with_reducible refine Dx.rs_leS ?_
    | with_reducible refine Dx.rs_inKI ?_
    | with_reducible refine Dx.rs_inI ?_
    | with_reducible refine Dx.rs_ninI ?_
    | with_reducible refine Dx.rs_inTk ?_
    | with_reducible refine Dx.rs_getET ?_
    | with_reducible refine Dx.rs_dD0 ?_
    | with_reducible refine Dx.rs_listTk ?_
    | with_reducible refine Dx.rs_lenTk ?_
    | with_reducible refine Dx.rs_itTk ?_
    | with_reducible refine Dx.rs_end ?_
    | with_reducible refine Dx.rs_start ?_
    | with_reducible refine Dx.rs_star ?_
    | with_reducible refine Dx.rs_itemsL ?_
    | with_reducible refine Dx.rs_itemsT ?_
    | with_reducible refine Dx.rs_zipL ?_
    | with_reducible refine Dx.rs_zipS ?_
    | with_reducible refine Dx.rs_isi_non_bool ?_
    | with_reducible refine Dx.rs_isi_non_int ?_
    | with_reducible refine Dx.rs_isi_non_str ?_
    | with_reducible refine Dx.rs_isi_non_tuple ?_
    | with_reducible refine Dx.rs_isi_non_list ?_
    | with_reducible refine Dx.rs_isi_bl_bool ?_
    | with_reducible refine Dx.rs_isi_bl_int ?_
    | with_reducible refine Dx.rs_isi_bl_str ?_
    | with_reducible refine Dx.rs_isi_bl_tuple ?_
    | with_reducible refine Dx.rs_isi_bl_list ?_
    | with_reducible refine Dx.rs_isi_int_bool ?_
    | with_reducible refine Dx.rs_isi_int_int ?_
    | with_reducible refine Dx.rs_isi_int_str ?_
    | with_reducible refine Dx.rs_isi_int_tuple ?_
    | with_reducible refine Dx.rs_isi_int_list ?_
    | with_reducible refine Dx.rs_isi_str_bool ?_
    | with_reducible refine Dx.rs_isi_str_int ?_
    | with_reducible refine Dx.rs_isi_str_str ?_
    | with_reducible refine Dx.rs_isi_str_tuple ?_
    | with_reducible refine Dx.rs_isi_str_list ?_
    | with_reducible refine Dx.rs_isi_lst_bool ?_
    | with_reducible refine Dx.rs_isi_lst_int ?_
    | with_reducible refine Dx.rs_isi_lst_str ?_
    | with_reducible refine Dx.rs_isi_lst_tuple ?_
    | with_reducible refine Dx.rs_isi_lst_list ?_
    | with_reducible refine Dx.rs_isi_tup_bool ?_
    | with_reducible refine Dx.rs_isi_tup_int ?_
    | with_reducible refine Dx.rs_isi_tup_str ?_
    | with_reducible refine Dx.rs_isi_tup_tuple ?_
    | with_reducible refine Dx.rs_isi_tup_list ?_
    | with_reducible refine Dx.ss_nx ?_
    | with_reducible refine Dx.ss_bk ?_
    | with_reducible refine Dx.ss_ct ?_
    | with_reducible refine Dx.ss_seq ?_
    | with_reducible refine Dx.ss_set ?_
    | with_reducible refine Dx.ss_ret ?_
    | with_reducible refine Dx.ss_drop ?_
    | with_reducible refine Dx.ss_if ?_
    | with_reducible refine Dx.ss_par ?_
    | with_reducible refine Dx.ss_par3 ?_
    | with_reducible refine Dx.ss_aug ?_
    | ((with_reducible apply Dx.rs_var); · (rfl))
    | ((with_reducible apply Dx.rs_ixL); · (first | rfl | assumption))
    | ((with_reducible apply Dx.rs_ixF); · (first | rfl | assumption))
    | ((with_reducible apply Dx.rs_ixT); · (first | rfl | assumption))
    | ((with_reducible apply Dx.rs_fld); · (rfl))
    | ((with_reducible apply Dx.rs_isObj); · (decide))
    | ((with_reducible apply Dx.rs_mod); · (omega))
    | ((with_reducible apply Dx.rs_fdiv); · (omega))
    | ((with_reducible apply Dx.rs_addS); · ((first | exact Nat.le_of_ble_eq_true rfl | assumption | (refine Nat.le_trans (m := 100000) ?_ Dx.sz5; first | omega | (simp only [List.length_append, List.length_cons, List.length_nil, List.length_map, List.length_range, List.length_replicate, List.length_reverse, List.length_take, List.length_drop]; omega)))))
    | ((with_reducible apply Dx.rs_addT); · ((first | exact Nat.le_of_ble_eq_true rfl | assumption | (refine Nat.le_trans (m := 100000) ?_ Dx.sz5; first | omega | (simp only [List.length_append, List.length_cons, List.length_nil, List.length_map, List.length_range, List.length_replicate, List.length_reverse, List.length_take, List.length_drop]; omega)))))
    | ((with_reducible apply Dx.rs_addLL); · ((first | exact Nat.le_of_ble_eq_true rfl | assumption | (refine Nat.le_trans (m := 100000) ?_ Dx.sz5; first | omega | (simp only [List.length_append, List.length_cons, List.length_nil, List.length_map, List.length_range, List.length_replicate, List.length_reverse, List.length_take, List.length_drop]; omega)))))
    | ((with_reducible apply Dx.rs_addLO); · ((first | exact Nat.le_of_ble_eq_true rfl | assumption | (refine Nat.le_trans (m := 100000) ?_ Dx.sz5; first | omega | (simp only [List.length_append, List.length_cons, List.length_nil, List.length_map, List.length_range, List.length_replicate, List.length_reverse, List.length_take, List.length_drop]; omega)))))
    | ((with_reducible apply Dx.rs_lenS); · ((first | exact Nat.le_of_ble_eq_true rfl | assumption | (refine Nat.le_trans (m := 100000) ?_ Dx.sz5; first | omega | (simp only [List.length_append, List.length_cons, List.length_nil, List.length_map, List.length_range, List.length_replicate, List.length_reverse, List.length_take, List.length_drop]; omega)))))
    | ((with_reducible apply Dx.rs_slS); · ((first | exact Nat.le_of_ble_eq_true rfl | assumption | (refine Nat.le_trans (m := 100000) ?_ Dx.sz5; first | omega | (simp only [List.length_append, List.length_cons, List.length_nil, List.length_map, List.length_range, List.length_replicate, List.length_reverse, List.length_take, List.length_drop]; omega)))))
    | ((with_reducible apply Dx.rs_mul); · ((first | exact Or.inl (Dx.small_of (by omega) (by omega)) | exact Or.inr (Dx.small_of (by omega) (by omega)))))
    | ((with_reducible apply Dx.rs_strI); · (omega))
    | ((with_reducible apply Dx.rs_fmtI); · (omega))
    | ((with_reducible apply Dx.rs_fmtS); · ((first | exact Nat.le_of_ble_eq_true rfl | assumption | (refine Nat.le_trans (m := 100000) ?_ Dx.sz5; first | omega | (simp only [List.length_append, List.length_cons, List.length_nil, List.length_map, List.length_range, List.length_replicate, List.length_reverse, List.length_take, List.length_drop]; omega)))))
    | ((with_reducible apply Dx.rs_split); · (refine And.intro (by decide) ?_; (first | exact Nat.le_of_ble_eq_true rfl | assumption | (refine Nat.le_trans (m := 100000) ?_ Dx.sz5; first | omega | (simp only [List.length_append, List.length_cons, List.length_nil, List.length_map, List.length_range, List.length_replicate, List.length_reverse, List.length_take, List.length_drop]; omega)))))
    | ((with_reducible apply Dx.ss_app); · (rfl))
    | (with_reducible refine Dx.rs_tup ?_)
    | (with_reducible refine Dx.rs_lst ?_)
    | ((with_reducible refine And.intro (a := List.length _ ≤ PySem.sizeLine) ?_ ?_); · ((first | exact Nat.le_of_ble_eq_true rfl | assumption | (refine Nat.le_trans (m := 100000) ?_ Dx.sz5; first | omega | (simp only [List.length_append, List.length_cons, List.length_nil, List.length_map, List.length_range, List.length_replicate, List.length_reverse, List.length_take, List.length_drop]; omega)))))
    | ((with_reducible refine And.intro (a := List.length _ < PySem.sizeLine) ?_ ?_); · (first | exact Nat.le_of_ble_eq_true rfl | (refine Nat.lt_of_lt_of_le (m := 100000) ?_ Dx.sz5; first | omega | (simp only [List.length_append, List.length_cons, List.length_nil, List.length_map, List.length_range, List.length_replicate, List.length_reverse, List.length_take, List.length_drop]; omega))))))
local macro_rules
  | `(tactic| array_mem_dec) => `(tactic| repeat (first
    | with_reducible refine Dx.ss_ifo ?_
    | with_reducible refine Dx.ss_ifa ?_
    | with_reducible refine Dx.rs_andc ?_
    | with_reducible refine Dx.rs_orc ?_
    | with_reducible refine Dx.rs_andVc ?_
    | with_reducible refine Dx.rs_orVc ?_
    | ((with_reducible apply Dx.rs_asSJ); · (first | omega | (simp only [List.length_append, List.length_cons, List.length_nil, List.length_map, List.length_range, List.length_replicate, List.length_reverse, List.length_take, List.length_drop]; omega)))
    | with_reducible refine Dx.rs_c ?_
    | with_reducible refine Dx.rs_op ?_
    | with_reducible refine Dx.rs_str ?_
    | with_reducible refine Dx.rs_asS ?_
    | with_reducible refine Dx.rs_un ?_
    | with_reducible refine Dx.rs_nil ?_
    | with_reducible refine Dx.rs_cons ?_
    | with_reducible refine Dx.rs_call ?_
    | with_reducible refine Dx.rs_T ?_
    | with_reducible refine Dx.rs_asB ?_
    | with_reducible refine Dx.rs_asI ?_
    | with_reducible refine Dx.rs_not ?_
    | with_reducible refine Dx.rs_notV ?_
    | with_reducible refine Dx.rs_chain ?_
    | with_reducible refine Dx.rs_noP ?_
    | with_reducible refine Dx.rs_part ?_
    | with_reducible refine Dx.rs_sl ?_
    | with_reducible refine Dx.rs_it ?_
    | with_reducible refine Dx.rs_its ?_
    | with_reducible refine Dx.rs_yes ?_
    | with_reducible refine Dx.rs_meth ?_
    | with_reducible refine Dx.rs_tru ?_
    | with_reducible refine Dx.rs_truB ?_
    | with_reducible refine Dx.rs_truI ?_
    | with_reducible refine Dx.rs_truL ?_
    | with_reducible refine Dx.rs_truT ?_
    | with_reducible refine Dx.rs_truN ?_
    | with_reducible refine Dx.rs_add ?_
    | with_reducible refine Dx.rs_sub ?_
    | with_reducible refine Dx.rs_neg ?_
    | with_reducible refine Dx.rs_eqI ?_
    | with_reducible refine Dx.rs_neI ?_
    | with_reducible refine Dx.rs_eqS ?_
    | with_reducible refine Dx.rs_neS ?_
    | with_reducible refine Dx.rs_eqB ?_
    | with_reducible refine Dx.rs_neB ?_
    | with_reducible refine Dx.rs_lt ?_
    | with_reducible refine Dx.rs_le ?_
    | with_reducible refine Dx.rs_gt ?_
    | with_reducible refine Dx.rs_ge ?_
    | with_reducible refine Dx.rs_is ?_
    | with_reducible refine Dx.rs_isn ?_
    | with_reducible refine Dx.rs_inS ?_
    | with_reducible refine Dx.rs_ninS ?_
    | with_reducible refine Dx.rs_lenL ?_
    | with_reducible refine Dx.rs_lenF ?_
    | with_reducible refine Dx.rs_lenT ?_
    | with_reducible refine Dx.rs_int ?_
    | with_reducible refine Dx.rs_intB ?_
    | with_reducible refine Dx.rs_abs ?_
    | with_reducible refine Dx.rs_listL ?_
    | with_reducible refine Dx.rs_listT ?_
    | with_reducible refine Dx.rs_tupL ?_
    | with_reducible refine Dx.rs_tupT ?_
    | with_reducible refine Dx.rs_slL ?_
    | with_reducible refine Dx.rs_slO ?_
    | with_reducible refine Dx.rs_slT ?_
    | with_reducible refine Dx.rs_itsL ?_
    | with_reducible refine Dx.rs_itsT ?_
    | with_reducible refine Dx.rs_itsS ?_
    | with_reducible refine Dx.rs_enL ?_
    | with_reducible refine Dx.rs_enT ?_
    | with_reducible refine Dx.rs_enS ?_
    | with_reducible refine Dx.rs_ints ?_
    | with_reducible refine Dx.rs_sortI ?_
    | with_reducible refine Dx.rs_sum ?_
    | with_reducible refine Dx.rs_g2 ?_
    | with_reducible refine Dx.rs_all ?_
    | with_reducible refine Dx.rs_disp ?_
    | with_reducible refine Dx.rs_pnil ?_
    | with_reducible refine Dx.rs_pcons ?_
    | with_reducible refine Dx.rs_jnil ?_
    | with_reducible refine Dx.rs_jcons ?_
    | with_reducible refine Dx.rs_dJoin ?_
    | with_reducible refine Dx.rs_ord ?_
    | with_reducible refine Dx.rs_leS ?_
    | with_reducible refine Dx.rs_inKI ?_
    | with_reducible refine Dx.rs_inI ?_
    | with_reducible refine Dx.rs_ninI ?_
    | with_reducible refine Dx.rs_inTk ?_
    | with_reducible refine Dx.rs_getET ?_
    | with_reducible refine Dx.rs_dD0 ?_
    | with_reducible refine Dx.rs_listTk ?_
    | with_reducible refine Dx.rs_lenTk ?_
    | with_reducible refine Dx.rs_itTk ?_
    | with_reducible refine Dx.rs_end ?_
    | with_reducible refine Dx.rs_start ?_
    | with_reducible refine Dx.rs_star ?_
    | with_reducible refine Dx.rs_itemsL ?_
    | with_reducible refine Dx.rs_itemsT ?_
    | with_reducible refine Dx.rs_zipL ?_
    | with_reducible refine Dx.rs_zipS ?_
    | with_reducible refine Dx.rs_isi_non_bool ?_
    | with_reducible refine Dx.rs_isi_non_int ?_
    | with_reducible refine Dx.rs_isi_non_str ?_
    | with_reducible refine Dx.rs_isi_non_tuple ?_
    | with_reducible refine Dx.rs_isi_non_list ?_
    | with_reducible refine Dx.rs_isi_bl_bool ?_
    | with_reducible refine Dx.rs_isi_bl_int ?_
    | with_reducible refine Dx.rs_isi_bl_str ?_
    | with_reducible refine Dx.rs_isi_bl_tuple ?_
    | with_reducible refine Dx.rs_isi_bl_list ?_
    | with_reducible refine Dx.rs_isi_int_bool ?_
    | with_reducible refine Dx.rs_isi_int_int ?_
    | with_reducible refine Dx.rs_isi_int_str ?_
    | with_reducible refine Dx.rs_isi_int_tuple ?_
    | with_reducible refine Dx.rs_isi_int_list ?_
    | with_reducible refine Dx.rs_isi_str_bool ?_
    | with_reducible refine Dx.rs_isi_str_int ?_
    | with_reducible refine Dx.rs_isi_str_str ?_
    | with_reducible refine Dx.rs_isi_str_tuple ?_
    | with_reducible refine Dx.rs_isi_str_list ?_
    | with_reducible refine Dx.rs_isi_lst_bool ?_
    | with_reducible refine Dx.rs_isi_lst_int ?_
    | with_reducible refine Dx.rs_isi_lst_str ?_
    | with_reducible refine Dx.rs_isi_lst_tuple ?_
    | with_reducible refine Dx.rs_isi_lst_list ?_
    | with_reducible refine Dx.rs_isi_tup_bool ?_
    | with_reducible refine Dx.rs_isi_tup_int ?_
    | with_reducible refine Dx.rs_isi_tup_str ?_
    | with_reducible refine Dx.rs_isi_tup_tuple ?_
    | with_reducible refine Dx.rs_isi_tup_list ?_
    | with_reducible refine Dx.ss_nx ?_
    | with_reducible refine Dx.ss_bk ?_
    | with_reducible refine Dx.ss_ct ?_
    | with_reducible refine Dx.ss_seq ?_
    | with_reducible refine Dx.ss_set ?_
    | with_reducible refine Dx.ss_ret ?_
    | with_reducible refine Dx.ss_drop ?_
    | with_reducible refine Dx.ss_if ?_
    | with_reducible refine Dx.ss_par ?_
    | with_reducible refine Dx.ss_par3 ?_
    | with_reducible refine Dx.ss_aug ?_
    | ((with_reducible apply Dx.rs_var); · (rfl))
    | ((with_reducible apply Dx.rs_ixL); · (first | rfl | assumption))
    | ((with_reducible apply Dx.rs_ixF); · (first | rfl | assumption))
    | ((with_reducible apply Dx.rs_ixT); · (first | rfl | assumption))
    | ((with_reducible apply Dx.rs_fld); · (rfl))
    | ((with_reducible apply Dx.rs_isObj); · (decide))
    | ((with_reducible apply Dx.rs_mod); · (omega))
    | ((with_reducible apply Dx.rs_fdiv); · (omega))
    | ((with_reducible apply Dx.rs_addS); · ((first | exact Nat.le_of_ble_eq_true rfl | assumption | (refine Nat.le_trans (m := 100000) ?_ Dx.sz5; first | omega | (simp only [List.length_append, List.length_cons, List.length_nil, List.length_map, List.length_range, List.length_replicate, List.length_reverse, List.length_take, List.length_drop]; omega)))))
    | ((with_reducible apply Dx.rs_addT); · ((first | exact Nat.le_of_ble_eq_true rfl | assumption | (refine Nat.le_trans (m := 100000) ?_ Dx.sz5; first | omega | (simp only [List.length_append, List.length_cons, List.length_nil, List.length_map, List.length_range, List.length_replicate, List.length_reverse, List.length_take, List.length_drop]; omega)))))
    | ((with_reducible apply Dx.rs_addLL); · ((first | exact Nat.le_of_ble_eq_true rfl | assumption | (refine Nat.le_trans (m := 100000) ?_ Dx.sz5; first | omega | (simp only [List.length_append, List.length_cons, List.length_nil, List.length_map, List.length_range, List.length_replicate, List.length_reverse, List.length_take, List.length_drop]; omega)))))
    | ((with_reducible apply Dx.rs_addLO); · ((first | exact Nat.le_of_ble_eq_true rfl | assumption | (refine Nat.le_trans (m := 100000) ?_ Dx.sz5; first | omega | (simp only [List.length_append, List.length_cons, List.length_nil, List.length_map, List.length_range, List.length_replicate, List.length_reverse, List.length_take, List.length_drop]; omega)))))
    | ((with_reducible apply Dx.rs_lenS); · ((first | exact Nat.le_of_ble_eq_true rfl | assumption | (refine Nat.le_trans (m := 100000) ?_ Dx.sz5; first | omega | (simp only [List.length_append, List.length_cons, List.length_nil, List.length_map, List.length_range, List.length_replicate, List.length_reverse, List.length_take, List.length_drop]; omega)))))
    | ((with_reducible apply Dx.rs_slS); · ((first | exact Nat.le_of_ble_eq_true rfl | assumption | (refine Nat.le_trans (m := 100000) ?_ Dx.sz5; first | omega | (simp only [List.length_append, List.length_cons, List.length_nil, List.length_map, List.length_range, List.length_replicate, List.length_reverse, List.length_take, List.length_drop]; omega)))))
    | ((with_reducible apply Dx.rs_mul); · ((first | exact Or.inl (Dx.small_of (by omega) (by omega)) | exact Or.inr (Dx.small_of (by omega) (by omega)))))
    | ((with_reducible apply Dx.rs_strI); · (omega))
    | ((with_reducible apply Dx.rs_fmtI); · (omega))
    | ((with_reducible apply Dx.rs_fmtS); · ((first | exact Nat.le_of_ble_eq_true rfl | assumption | (refine Nat.le_trans (m := 100000) ?_ Dx.sz5; first | omega | (simp only [List.length_append, List.length_cons, List.length_nil, List.length_map, List.length_range, List.length_replicate, List.length_reverse, List.length_take, List.length_drop]; omega)))))
    | ((with_reducible apply Dx.rs_split); · (refine And.intro (by decide) ?_; (first | exact Nat.le_of_ble_eq_true rfl | assumption | (refine Nat.le_trans (m := 100000) ?_ Dx.sz5; first | omega | (simp only [List.length_append, List.length_cons, List.length_nil, List.length_map, List.length_range, List.length_replicate, List.length_reverse, List.length_take, List.length_drop]; omega)))))
    | ((with_reducible apply Dx.ss_app); · (rfl))
    | (with_reducible refine Dx.rs_tup ?_)
    | (with_reducible refine Dx.rs_lst ?_)
    | ((with_reducible refine And.intro (a := List.length _ ≤ PySem.sizeLine) ?_ ?_); · ((first | exact Nat.le_of_ble_eq_true rfl | assumption | (refine Nat.le_trans (m := 100000) ?_ Dx.sz5; first | omega | (simp only [List.length_append, List.length_cons, List.length_nil, List.length_map, List.length_range, List.length_replicate, List.length_reverse, List.length_take, List.length_drop]; omega)))))
    | ((with_reducible refine And.intro (a := List.length _ < PySem.sizeLine) ?_ ?_); · (first | exact Nat.le_of_ble_eq_true rfl | (refine Nat.lt_of_lt_of_le (m := 100000) ?_ Dx.sz5; first | omega | (simp only [List.length_append, List.length_cons, List.length_nil, List.length_map, List.length_range, List.length_replicate, List.length_reverse, List.length_take, List.length_drop]; omega))))
    | ((refine And.intro (fun h => absurd h ?_) (fun _ => ?_)); · (first | exact Bool.false_ne_true | (simp; done) | (simp; omega)))
    | ((refine And.intro (fun _ => ?_) (fun h => absurd h ?_)); rotate_left; · (first | exact (fun h => Bool.false_ne_true h.symm) | (simp; done) | (simp; omega)))))
local macro_rules
  | `(tactic| sizeOf_list_dec) => `(tactic| repeat (first
    | ((with_reducible apply Dx.rs_asSJ); · (first | omega | (simp only [List.length_append, List.length_cons, List.length_nil, List.length_map, List.length_range, List.length_replicate, List.length_reverse, List.length_take, List.length_drop]; omega)))
    | with_reducible refine Dx.rs_c ?_
    | with_reducible refine Dx.rs_op ?_
    | with_reducible refine Dx.rs_str ?_
    | with_reducible refine Dx.rs_asS ?_
    | with_reducible refine Dx.rs_un ?_
    | with_reducible refine Dx.rs_nil ?_
    | with_reducible refine Dx.rs_cons ?_
    | with_reducible refine Dx.rs_call ?_
    | with_reducible refine Dx.rs_T ?_
    | with_reducible refine Dx.rs_asB ?_
    | with_reducible refine Dx.rs_asI ?_
    | with_reducible refine Dx.rs_not ?_
    | with_reducible refine Dx.rs_and ?_
    | with_reducible refine Dx.rs_or ?_
    | with_reducible refine Dx.rs_andV ?_
    | with_reducible refine Dx.rs_orV ?_
    | with_reducible refine Dx.rs_notV ?_
    | with_reducible refine Dx.rs_chain ?_
    | with_reducible refine Dx.rs_noP ?_
    | with_reducible refine Dx.rs_part ?_
    | with_reducible refine Dx.rs_sl ?_
    | with_reducible refine Dx.rs_it ?_
    | with_reducible refine Dx.rs_its ?_
    | with_reducible refine Dx.rs_yes ?_
    | with_reducible refine Dx.rs_meth ?_
    | with_reducible refine Dx.rs_tru ?_
    | with_reducible refine Dx.rs_truB ?_
    | with_reducible refine Dx.rs_truI ?_
    | with_reducible refine Dx.rs_truL ?_
    | with_reducible refine Dx.rs_truT ?_
    | with_reducible refine Dx.rs_truN ?_
    | with_reducible refine Dx.rs_ifx ?_
    | with_reducible refine Dx.rs_add ?_
    | with_reducible refine Dx.rs_sub ?_
    | with_reducible refine Dx.rs_neg ?_
    | with_reducible refine Dx.rs_eqI ?_
    | with_reducible refine Dx.rs_neI ?_
    | with_reducible refine Dx.rs_eqS ?_
    | with_reducible refine Dx.rs_neS ?_
    | with_reducible refine Dx.rs_eqB ?_
    | with_reducible refine Dx.rs_neB ?_
    | with_reducible refine Dx.rs_lt ?_
    | with_reducible refine Dx.rs_le ?_
    | with_reducible refine Dx.rs_gt ?_
    | with_reducible refine Dx.rs_ge ?_
    | with_reducible refine Dx.rs_is ?_
    | with_reducible refine Dx.rs_isn ?_
    | with_reducible refine Dx.rs_inS ?_
    | with_reducible refine Dx.rs_ninS ?_
    | with_reducible refine Dx.rs_lenL ?_
    | with_reducible refine Dx.rs_lenF ?_
    | with_reducible refine Dx.rs_lenT ?_
    | with_reducible refine Dx.rs_int ?_
    | with_reducible refine Dx.rs_intB ?_
    | with_reducible refine Dx.rs_abs ?_
    | with_reducible refine Dx.rs_listL ?_
    | with_reducible refine Dx.rs_listT ?_
    | with_reducible refine Dx.rs_tupL ?_
    | with_reducible refine Dx.rs_tupT ?_
    | with_reducible refine Dx.rs_slL ?_
    | with_reducible refine Dx.rs_slO ?_
    | with_reducible refine Dx.rs_slT ?_
    | with_reducible refine Dx.rs_itsL ?_
    | with_reducible refine Dx.rs_itsT ?_
    | with_reducible refine Dx.rs_itsS ?_
    | with_reducible refine Dx.rs_enL ?_
    | with_reducible refine Dx.rs_enT ?_
    | with_reducible refine Dx.rs_enS ?_
    | with_reducible refine Dx.rs_ints ?_
    | with_reducible refine Dx.rs_sortI ?_
    | with_reducible refine Dx.rs_sum ?_
    | with_reducible refine Dx.rs_g2 ?_
    | with_reducible refine Dx.rs_all ?_
    | with_reducible refine Dx.rs_disp ?_
    | with_reducible refine Dx.rs_pnil ?_
    | with_reducible refine Dx.rs_pcons ?_
    | with_reducible refine Dx.rs_jnil ?_
    | with_reducible refine Dx.rs_jcons ?_
    | with_reducible refine Dx.rs_dJoin ?_
    | with_reducible refine Dx.rs_ord ?_
    | with_reducible refine Dx.rs_leS ?_
    | with_reducible refine Dx.rs_inKI ?_
    | with_reducible refine Dx.rs_inI ?_
    | with_reducible refine Dx.rs_ninI ?_
    | with_reducible refine Dx.rs_inTk ?_
    | with_reducible refine Dx.rs_getET ?_
    | with_reducible refine Dx.rs_dD0 ?_
    | with_reducible refine Dx.rs_listTk ?_
    | with_reducible refine Dx.rs_lenTk ?_
    | with_reducible refine Dx.rs_itTk ?_
    | with_reducible refine Dx.rs_end ?_
    | with_reducible refine Dx.rs_start ?_
    | with_reducible refine Dx.rs_star ?_
    | with_reducible refine Dx.rs_itemsL ?_
    | with_reducible refine Dx.rs_itemsT ?_
    | with_reducible refine Dx.rs_zipL ?_
    | with_reducible refine Dx.rs_zipS ?_
    | with_reducible refine Dx.rs_isi_non_bool ?_
    | with_reducible refine Dx.rs_isi_non_int ?_
    | with_reducible refine Dx.rs_isi_non_str ?_
    | with_reducible refine Dx.rs_isi_non_tuple ?_
    | with_reducible refine Dx.rs_isi_non_list ?_
    | with_reducible refine Dx.rs_isi_bl_bool ?_
    | with_reducible refine Dx.rs_isi_bl_int ?_
    | with_reducible refine Dx.rs_isi_bl_str ?_
    | with_reducible refine Dx.rs_isi_bl_tuple ?_
    | with_reducible refine Dx.rs_isi_bl_list ?_
    | with_reducible refine Dx.rs_isi_int_bool ?_
    | with_reducible refine Dx.rs_isi_int_int ?_
    | with_reducible refine Dx.rs_isi_int_str ?_
    | with_reducible refine Dx.rs_isi_int_tuple ?_
    | with_reducible refine Dx.rs_isi_int_list ?_
    | with_reducible refine Dx.rs_isi_str_bool ?_
    | with_reducible refine Dx.rs_isi_str_int ?_
    | with_reducible refine Dx.rs_isi_str_str ?_
    | with_reducible refine Dx.rs_isi_str_tuple ?_
    | with_reducible refine Dx.rs_isi_str_list ?_
    | with_reducible refine Dx.rs_isi_lst_bool ?_
    | with_reducible refine Dx.rs_isi_lst_int ?_
    | with_reducible refine Dx.rs_isi_lst_str ?_
    | with_reducible refine Dx.rs_isi_lst_tuple ?_
    | with_reducible refine Dx.rs_isi_lst_list ?_
    | with_reducible refine Dx.rs_isi_tup_bool ?_
    | with_reducible refine Dx.rs_isi_tup_int ?_
    | with_reducible refine Dx.rs_isi_tup_str ?_
    | with_reducible refine Dx.rs_isi_tup_tuple ?_
    | with_reducible refine Dx.rs_isi_tup_list ?_
    | with_reducible refine Dx.ss_nx ?_
    | with_reducible refine Dx.ss_bk ?_
    | with_reducible refine Dx.ss_ct ?_
    | with_reducible refine Dx.ss_seq ?_
    | with_reducible refine Dx.ss_set ?_
    | with_reducible refine Dx.ss_ret ?_
    | with_reducible refine Dx.ss_drop ?_
    | with_reducible refine Dx.ss_if ?_
    | with_reducible refine Dx.ss_par ?_
    | with_reducible refine Dx.ss_par3 ?_
    | with_reducible refine Dx.ss_aug ?_
    | ((with_reducible apply Dx.rs_var); · (rfl))
    | ((with_reducible apply Dx.rs_ixL); · (first | rfl | assumption))
    | ((with_reducible apply Dx.rs_ixF); · (first | rfl | assumption))
    | ((with_reducible apply Dx.rs_ixT); · (first | rfl | assumption))
    | ((with_reducible apply Dx.rs_fld); · (rfl))
    | ((with_reducible apply Dx.rs_isObj); · (decide))
    | ((with_reducible apply Dx.rs_mod); · (omega))
    | ((with_reducible apply Dx.rs_fdiv); · (omega))
    | ((with_reducible apply Dx.rs_addS); · ((first | exact Nat.le_of_ble_eq_true rfl | assumption | (refine Nat.le_trans (m := 100000) ?_ Dx.sz5; first | omega | (simp only [List.length_append, List.length_cons, List.length_nil, List.length_map, List.length_range, List.length_replicate, List.length_reverse, List.length_take, List.length_drop]; omega)))))
    | ((with_reducible apply Dx.rs_addT); · ((first | exact Nat.le_of_ble_eq_true rfl | assumption | (refine Nat.le_trans (m := 100000) ?_ Dx.sz5; first | omega | (simp only [List.length_append, List.length_cons, List.length_nil, List.length_map, List.length_range, List.length_replicate, List.length_reverse, List.length_take, List.length_drop]; omega)))))
    | ((with_reducible apply Dx.rs_addLL); · ((first | exact Nat.le_of_ble_eq_true rfl | assumption | (refine Nat.le_trans (m := 100000) ?_ Dx.sz5; first | omega | (simp only [List.length_append, List.length_cons, List.length_nil, List.length_map, List.length_range, List.length_replicate, List.length_reverse, List.length_take, List.length_drop]; omega)))))
    | ((with_reducible apply Dx.rs_addLO); · ((first | exact Nat.le_of_ble_eq_true rfl | assumption | (refine Nat.le_trans (m := 100000) ?_ Dx.sz5; first | omega | (simp only [List.length_append, List.length_cons, List.length_nil, List.length_map, List.length_range, List.length_replicate, List.length_reverse, List.length_take, List.length_drop]; omega)))))
    | ((with_reducible apply Dx.rs_lenS); · ((first | exact Nat.le_of_ble_eq_true rfl | assumption | (refine Nat.le_trans (m := 100000) ?_ Dx.sz5; first | omega | (simp only [List.length_append, List.length_cons, List.length_nil, List.length_map, List.length_range, List.length_replicate, List.length_reverse, List.length_take, List.length_drop]; omega)))))
    | ((with_reducible apply Dx.rs_slS); · ((first | exact Nat.le_of_ble_eq_true rfl | assumption | (refine Nat.le_trans (m := 100000) ?_ Dx.sz5; first | omega | (simp only [List.length_append, List.length_cons, List.length_nil, List.length_map, List.length_range, List.length_replicate, List.length_reverse, List.length_take, List.length_drop]; omega)))))
    | ((with_reducible apply Dx.rs_mul); · ((first | exact Or.inl (Dx.small_of (by omega) (by omega)) | exact Or.inr (Dx.small_of (by omega) (by omega)))))
    | ((with_reducible apply Dx.rs_strI); · (omega))
    | ((with_reducible apply Dx.rs_fmtI); · (omega))
    | ((with_reducible apply Dx.rs_fmtS); · ((first | exact Nat.le_of_ble_eq_true rfl | assumption | (refine Nat.le_trans (m := 100000) ?_ Dx.sz5; first | omega | (simp only [List.length_append, List.length_cons, List.length_nil, List.length_map, List.length_range, List.length_replicate, List.length_reverse, List.length_take, List.length_drop]; omega)))))
    | ((with_reducible apply Dx.rs_split); · (refine And.intro (by decide) ?_; (first | exact Nat.le_of_ble_eq_true rfl | assumption | (refine Nat.le_trans (m := 100000) ?_ Dx.sz5; first | omega | (simp only [List.length_append, List.length_cons, List.length_nil, List.length_map, List.length_range, List.length_replicate, List.length_reverse, List.length_take, List.length_drop]; omega)))))
    | ((with_reducible apply Dx.ss_app); · (rfl))
    | (with_reducible refine Dx.rs_tup ?_)
    | (with_reducible refine Dx.rs_lst ?_)
    | ((with_reducible refine And.intro (a := List.length _ ≤ PySem.sizeLine) ?_ ?_); · ((first | exact Nat.le_of_ble_eq_true rfl | assumption | (refine Nat.le_trans (m := 100000) ?_ Dx.sz5; first | omega | (simp only [List.length_append, List.length_cons, List.length_nil, List.length_map, List.length_range, List.length_replicate, List.length_reverse, List.length_take, List.length_drop]; omega)))))
    | ((with_reducible refine And.intro (a := List.length _ < PySem.sizeLine) ?_ ?_); · (first | exact Nat.le_of_ble_eq_true rfl | (refine Nat.lt_of_lt_of_le (m := 100000) ?_ Dx.sz5; first | omega | (simp only [List.length_append, List.length_cons, List.length_nil, List.length_map, List.length_range, List.length_replicate, List.length_reverse, List.length_take, List.length_drop]; omega))))
    | ((refine And.intro (fun h => absurd h ?_) (fun _ => ?_)); · (first | exact Bool.false_ne_true | (simp; done) | (simp; omega)))
    | ((refine And.intro (fun _ => ?_) (fun h => absurd h ?_)); rotate_left; · (first | exact (fun h => Bool.false_ne_true h.symm) | (simp; done) | (simp; omega)))))
section
theorem cell_sp (ns : List Int) (k : Nat) (hk : k ≤ 1000) : Rs (F_l_cell [.fz (ns.map D.int), .int (k : Int)]) (fun d => ∃ z, d = .int z) nE := by
  refine rs_run ?_
  unfold Fb_l_cell
  array_get_dec
  refine ⟨fun h => ?_, fun h => ?_⟩
  · have h := of_decide_eq_true h
    rw [List.length_map] at h
    have hk : k < ns.length := by omega
    array_get_dec
    refine rs_ixF (d := .int ns[k]) (atI_nat (by rw [List.getElem?_map, List.getElem?_eq_getElem hk]; rfl)) ?_
    array_get_dec
    exact ⟨_, rfl⟩
  · array_get_dec
    exact ⟨_, rfl⟩
theorem row_sp (c : Int) (ls : List Int) (hl : ∀ l ∈ ls, 0 < l ∧ l < 4611686018427387904) (hn : ls.length < 10000) : Rs (F_l_row [.int c, iL ls]) (fun d => ∃ vs, d = iL vs ∧ Fit vs ls) nE := by
  refine rs_run ?_
  unfold Fb_l_row
  array_get_dec
  refine ⟨fun hc => ?_, fun hc => ?_⟩
  · array_get_dec
    refine ss_each D.int ls (fun i r => ∃ vs rest y, Fit vs (ls.take i) ∧ r = [some (.int c), some (iL ls), some (iL vs), some (.int rest), y, none, none]) ?_ ?_ ?_ ?_
    · array_get_dec; rfl
    · exact ⟨[], _, none, trivial, rfl⟩
    · rintro i l r hi ⟨vs, rest, y, hf, rfl⟩
      have hl := hl l (List.mem_of_getElem? hi)
      have hlen := hf.len
      rw [List.length_take] at hlen
      unfold Lp_l_row_1
      array_get_dec
      refine ⟨vs ++ [rest % l], rest / l, some (.int l), ?_, by simp [iL]⟩
      rw [take_snoc hi]
      exact hf.snoc (Int.emod_nonneg _ (by omega)) (Int.emod_lt_of_pos _ hl.1)
    · rintro r ⟨vs, rest, y, hf, rfl⟩
      rw [List.take_length] at hf
      array_get_dec
      exact ⟨vs, rfl, hf⟩
  · array_get_dec
    refine ss_rng ls.length (fun i r => ∃ vs y z, Fit vs (ls.take i) ∧ r = [some (.int c), some (iL ls), some (iL vs), none, none, y, z]) ?_ (by omega) ?_ ?_ ?_
    · array_get_dec
      rw [List.length_map]
    · exact ⟨[], none, none, trivial, rfl⟩
    · rintro k r hk ⟨vs, y, z, hf, rfl⟩
      have hlen := hf.len
      rw [List.length_take] at hlen
      have hg : ls[k]? = some ls[k] := List.getElem?_eq_getElem hk
      have hl := hl ls[k] (List.getElem_mem hk)
      generalize ls[k] = l at hg hl
      unfold Lp_l_row_2
      array_get_dec
      refine rs_ixL (d := .int l) (atI_nat (by rw [List.getElem?_map, hg]; rfl)) ?_
      array_get_dec
      refine ⟨vs ++ [_], _, _, ?_, by simp [iL]; exact ⟨rfl, rfl, rfl⟩⟩
      rw [take_snoc hg]
      exact hf.snoc (Int.emod_nonneg _ (by omega)) (Int.emod_lt_of_pos _ hl.1)
    · rintro r ⟨vs, y, z, hf, rfl⟩
      rw [List.take_length] at hf
      array_get_dec
      exact ⟨vs, rfl, hf⟩
theorem row_of (c : Int) (ls : List Int) {Q : D → Prop} {E : Str → List Str → List D → Prop} (hl : ∀ l ∈ ls, 0 < l ∧ l < 4611686018427387904) (hn : ls.length < 10000) (q : ∀ vs, Fit vs ls → Q (iL vs)) : Rs (F_l_row [.int c, iL ls]) Q E := (row_sp c ls hl hn).imp fun d ⟨vs, e, h⟩ => by subst e; exact q vs h
def wD (w : List Nat) : D := .str (Sg w)
theorem fit_drop2 : ∀ (n : Nat) {vs ls : List Int}, Fit vs ls → Fit (vs.drop n) (ls.drop n)
  | 0, vs, ls, h => h
  | n + 1, vs, [], h => by rw [h.nil]; trivial
  | n + 1, vs, l :: ls, h => by
    obtain ⟨v, us, rfl, _, _, h⟩ := h.cons
    exact fit_drop2 n h
theorem fit_mem : ∀ {vs ls : List Int} {b : Int}, Fit vs ls → (∀ l ∈ ls, l = b) → ∀ v ∈ vs, 0 ≤ v ∧ v < b
  | vs, [], b, h, _, v, hv => by rw [h.nil] at hv; cases hv
  | vs, l :: ls, b, h, hb, v, hv => by
    obtain ⟨v0, us, rfl, h1, h2, h⟩ := h.cons
    rcases List.mem_cons.mp hv with rfl | hv
    · have := hb l (List.mem_cons_self ..); omega
    · exact fit_mem h (fun l hl => hb l (List.mem_cons_of_mem _ hl)) v hv
theorem word_sp {r : Rho} {its : Rho → Res (List D)} {a m : Nat} {A : List Nat} {ps : List Int} {Q : D → Prop} {E : Str → List Str → List D → Prop} (hA : A.length ≤ 1000) (hps : ∀ p ∈ ps, 0 ≤ p ∧ p < A.length) (hl : ps.length ≤ 1000) (hi : Rs (its r) (fun ds => ds = ps.map D.int) nE)
    (ha : r[a]? = some (some (wD A))) (hm : m < r.length) (hne : a ≠ m) (q : Q (wD (ps.map fun p => A.getD p.toNat 0))) : Rs (dStr joinD (dC (.str (Sg []))) (dLc its (tgN m) dYes (dOp ixD (dVar a) (dVar m)) [m]) r) Q E := by
  refine rs_str (rs_c (rs_asS ?_))
  refine rs_lc D.int (fun p => .str (Sg [A.getD p.toNat 0])) ps (hi.impE (fun _ z => z) fun _ _ _ z => z.elim) (Nat.le_trans (show _ ≤ 100000 by omega) sz5) (fun p hp => ⟨r.set m (some (.int p)), ?_, rfl, ?_⟩) ?_
  · show Res.ok ((r.set m none).set m (some (.int p))) = _
    rw [List.set_set]
  · have hp := hps p hp
    have hlt : p.toNat < A.length := by omega
    refine rs_op (rs_var (d := wD A) (by rw [List.getElem?_set_ne (Ne.symm hne)]; exact ha) (rs_var (d := .int p) (by rw [List.getElem?_set_self hm]) ?_))
    refine rs_ixS (n := A.getD p.toNat 0) ⟨Nat.le_trans (show _ ≤ 100000 by omega) sz5, ?_⟩ rfl
    exact at_pos hp.1 (by rw [List.getD_eq_getElem?_getD, List.getElem?_eq_getElem hlt]; rfl)
  · have e : (ps.map fun p => D.str (Sg [A.getD p.toNat 0])) = (ps.map fun p => A.getD p.toNat 0).map fun n => .str (Sg [n]) := by rw [List.map_map]; rfl
    rw [e]
    exact rs_joinC (by rw [List.length_map]; omega) q
theorem ixN_nat {n k : Nat} (h : k < n) : ixN n (k : Int) = some k := by
  unfold ixN
  rw [if_pos (by omega), if_pos (by omega), Int.toNat_natCast]
/-- a name -/
def Nm (w : List Nat) : Prop := 0 < w.length ∧ w.length ≤ 8 ∧ ∀ c ∈ w, 97 ≤ c ∧ c ≤ 122
theorem pick_mem {A : List Nat} {ps : List Int} (hps : ∀ p ∈ ps, 0 ≤ p ∧ p < A.length) : ∀ c ∈ ps.map fun p => A.getD p.toNat 0, c ∈ A := fun c hc => by
  obtain ⟨p, hp, rfl⟩ := List.mem_map.mp hc
  have := hps p hp
  have hlt : p.toNat < A.length := by omega
  rw [List.getD_eq_getElem?_getD, List.getElem?_eq_getElem hlt]
  exact List.getElem_mem hlt
def brk (c : Nat) : List Nat → Option (List Nat × List Nat)
  | [] => none
  | x :: r => if x = c then some ([], r) else match brk c r with
    | some (p, q) => some (x :: p, q)
    | none => none
theorem brk_none {c : Nat} : ∀ {a : List Nat}, brk c a = none → c ∉ a
  | [], _ => by simp
  | x :: r, h => by
    unfold brk at h
    by_cases hx : x = c
    · rw [if_pos hx] at h; cases h
    · rw [if_neg hx] at h
      cases hr : brk c r with
      | none =>
        have := brk_none hr
        simp [this, Ne.symm hx]
      | some y => rw [hr] at h; cases h
theorem brk_some {c : Nat} : ∀ {a p q : List Nat}, brk c a = some (p, q) → a = p ++ c :: q ∧ c ∉ p
  | [], _, _, h => by cases h
  | x :: r, p, q, h => by
    unfold brk at h
    by_cases hx : x = c
    · rw [if_pos hx] at h; cases h
      subst hx
      simp
    · rw [if_neg hx] at h
      cases hr : brk c r with
      | none => rw [hr] at h; cases h
      | some y =>
        obtain ⟨p', q'⟩ := y
        rw [hr] at h
        cases h
        obtain ⟨h1, h2⟩ := brk_some hr
        exact ⟨by rw [h1]; rfl, by simp [h2, Ne.symm hx]⟩
theorem part_brk {a : List Nat} {c : Nat} : PySem.Txt.partition (Sg a) (Sg [c]) = match brk c a with
    | none => (Sg a, Sg [], Sg [])
    | some (p, q) => (Sg p, Sg [c], Sg q) := by
  cases hb : brk c a with
  | none => exact TL.partition_none (y := Sg [c]) (S := []) rfl (brk_none hb)
  | some y =>
    obtain ⟨p, q⟩ := y
    obtain ⟨e, hp⟩ := brk_some hb
    have := TL.partition_app (y := Sg [c]) (S := []) rfl (a := Sg p) (b := Sg q) hp
    rw [ST_app, ST_app] at this
    subst e
    rw [show p ++ c :: q = p ++ [c] ++ q by simp]
    exact this
theorem rs_partB {a : List Nat} {c : Nat} {Q : D → Prop} {E : Str → List Str → List D → Prop} (h : a.length ≤ sizeLine) (q : Q (match brk c a with
    | none => .tup [wD a, wD [], wD []]
    | some (p, q) => .tup [wD p, wD [c], wD q])) : Rs (partD (.str (Sg a)) (.str (Sg [c]))) Q E := by
  unfold partD
  refine rs_guard ⟨rfl, by rw [ST_len]; exact h⟩ ?_
  rw [part_brk]
  cases hb : brk c a with
  | none => rw [hb] at q; exact q
  | some y => obtain ⟨p, r⟩ := y; rw [hb] at q; exact q
end
section
theorem low_mem {n : Nat} : n ∈ [97, 98, 99, 100, 101, 102, 103, 104, 105, 106, 107, 108, 109, 110, 111, 112, 113, 114, 115, 116, 117, 118, 119, 120, 121, 122] ↔ 97 ≤ n ∧ n ≤ 122 := by
  constructor
  · intro h
    have : ∀ m ∈ [97, 98, 99, 100, 101, 102, 103, 104, 105, 106, 107, 108, 109, 110, 111, 112, 113, 114, 115, 116, 117, 118, 119, 120, 121, 122], 97 ≤ m ∧ m ≤ 122 := by decide
    exact this n h
  · intro h
    have : ∀ m : Fin 26, 97 + m.1 ∈ [97, 98, 99, 100, 101, 102, 103, 104, 105, 106, 107, 108, 109, 110, 111, 112, 113, 114, 115, 116, 117, 118, 119, 120, 121, 122] := by decide
    have := this ⟨n - 97, by omega⟩
    rw [show 97 + (n - 97) = n by omega] at this
    exact this
def lowB (w : List Nat) : Bool := w.all fun c => decide (97 ≤ c ∧ c ≤ 122)
def nmB (w : List Nat) : Bool := decide (0 < w.length ∧ w.length ≤ 8) && lowB w
theorem lowB_iff {w : List Nat} : lowB w = true ↔ ∀ c ∈ w, 97 ≤ c ∧ c ≤ 122 := by
  unfold lowB
  rw [List.all_eq_true]
  exact ⟨fun h c hc => of_decide_eq_true (h c hc), fun h c hc => decide_eq_true (h c hc)⟩
theorem nmB_iff {w : List Nat} : nmB w = true ↔ Nm w := by
  unfold nmB Nm
  rw [Bool.and_eq_true, decide_eq_true_eq, lowB_iff, and_assoc]
theorem low_no {w : List Nat} {c i : Nat} (hc : w[i]? = some c) (h : ¬ (97 ≤ c ∧ c ≤ 122)) : lowB w = false := by
  cases e : lowB w with
  | false => rfl
  | true => exact absurd (lowB_iff.mp e c (List.mem_of_getElem? hc)) h
theorem is_name_eq {w : List Nat} (hl : w.length ≤ 10000) : F_is_name [wD w] = .ok (.bl (nmB w)) := Rs.eq (by
  refine rs_run ?_
  unfold Fb_is_name
  show Ss (seqF _ _ [some (wD w), none]) _ _ _ _ _
  refine ss_seq (ss_if (rs_not (rs_T (rs_chain (rs_c (rs_call (rs_cons (rs_var rfl (rs_nil (rs_lenS (Nat.le_trans (show _ ≤ 100000 by omega) sz5) (rs_le (rs_asB (rs_c (rs_le (rs_asB (rs_asB ⟨fun z => ?_, fun z => ?_⟩))))))))))))))))
  · refine ss_ret (rs_c ?_)
    show D.bl false = D.bl (nmB w)
    congr 1
    unfold nmB
    have : ¬ (0 < w.length ∧ w.length ≤ 8) := fun h => by
      have : (decide ((1 : Int) ≤ (w.length : Int)) && decide ((w.length : Int) ≤ 8)) = true := by
        rw [Bool.and_eq_true]; exact ⟨decide_eq_true (by omega), decide_eq_true (by omega)⟩
      rw [this] at z
      cases z
    rw [decide_eq_false this]
    rfl
  · have hw : 0 < w.length ∧ w.length ≤ 8 := by
      have z : (decide ((1 : Int) ≤ (w.length : Int)) && decide ((w.length : Int) ≤ 8)) = true := by
        cases h : (decide ((1 : Int) ≤ (w.length : Int)) && decide ((w.length : Int) ≤ 8)) with
        | true => rfl
        | false => rw [h] at z; cases z
      rw [Bool.and_eq_true] at z
      have h1 := of_decide_eq_true z.1
      have h2 := of_decide_eq_true z.2
      omega
    have hn : nmB w = lowB w := by unfold nmB; rw [decide_eq_true hw]; rfl
    rw [hn]
    refine ss_nx ?_
    refine ss_seq (ss_for (fun i r => (∃ x, r = [some (wD w), x]) ∧ ∀ c ∈ w.take i, 97 ≤ c ∧ c ≤ 122) (rs_it (rs_var rfl (rs_itsS ⟨⟨⟨_, rfl⟩, by simp⟩, ?_, ?_⟩))))
    · rintro i d r hd ⟨⟨x, rfl⟩, hi⟩
      rw [List.getElem?_map] at hd
      obtain ⟨c, hc, rfl⟩ := Option.map_eq_some_iff.mp hd
      refine ⟨_, rfl, ?_⟩
      unfold Lp_is_name_1
      refine ss_if (rs_T (rs_op (rs_var rfl (rs_c (rs_ninS (rs_asB ⟨fun z => ?_, fun z => ?_⟩))))))
      · refine ss_ret (rs_c ?_)
        rw [low_no hc fun h => by rw [decide_eq_true (low_mem.mpr h)] at z; cases z]
      · refine ss_nx ⟨⟨_, rfl⟩, fun c' hc' => ?_⟩
        rw [take_snoc hc] at hc'
        rcases List.mem_append.mp hc' with h | h
        · exact hi c' h
        · rw [List.mem_singleton.mp h]
          refine low_mem.mp ?_
          by_cases m : c ∈ [97, 98, 99, 100, 101, 102, 103, 104, 105, 106, 107, 108, 109, 110, 111, 112, 113, 114, 115, 116, 117, 118, 119, 120, 121, 122]
          · exact m
          · rw [decide_eq_false m] at z; cases z
    · rintro r ⟨⟨x, rfl⟩, hi⟩
      rw [List.length_map, List.take_length] at hi
      refine ss_ret (rs_c ?_)
      rw [lowB_iff.mpr hi])
abbrev TT := List Nat × List Nat
def okKd (w : List Nat) : Bool := decide (w = [42]) || nmB w
def testP (w : List Nat) : Option TT := match brk 46 w with
  | none => if okKd w = true then some (w, []) else none
  | some (p, q) => if (okKd p && nmB q) = true then some (p, q) else none
def ttD (t : TT) : D := .tup [wD t.1, wD t.2]
theorem brk_len {c : Nat} {a p q : List Nat} (h : brk c a = some (p, q)) : p.length ≤ a.length ∧ q.length ≤ a.length := by
  obtain ⟨e, _⟩ := brk_some h
  rw [e, List.length_append, List.length_cons]
  omega
theorem read_test_eq {w : List Nat} (hl : w.length ≤ 10000) : F_read_test [wD w] = .ok (match testP w with
    | none => .non
    | some t => ttD t) := Rs.eq (by
  refine rs_run ?_
  unfold Fb_read_test
  show Ss (seqF _ _ [some (wD w), none, none, none]) _ _ _ _ _
  unfold testP
  refine ss_seq (ss_asg (rs_str (rs_var rfl (rs_asS (rs_c (rs_partB (Nat.le_trans (show _ ≤ 100000 by omega) sz5) ?_))))))
  cases hb : brk 46 w with
  | none =>
    refine ⟨[some (wD w), some (wD w), some (wD []), some (wD [])], rfl, ?_⟩
    refine ss_seq (ss_if (rs_and (rs_T (rs_op (rs_var rfl (rs_c (rs_neS (rs_asB (rs_not (rs_T (rs_call (rs_cons (rs_var (d := wD w) rfl (rs_nil (Rs.of (is_name_eq hl) (rs_asB ⟨fun z => ?_, fun z => ?_⟩))))))))))))))))
    · have : okKd w = false := by
        unfold okKd
        cases h1 : decide (w = [42]) <;> cases h2 : nmB w <;> simp [h1, h2] at z ⊢
      dsimp only
      rw [this]
      exact ss_ret (rs_c rfl)
    · have : okKd w = true := by
        unfold okKd
        cases h1 : decide (w = [42]) <;> cases h2 : nmB w <;> simp [h1, h2] at z ⊢
      dsimp only
      rw [this]
      refine ss_nx (ss_seq (ss_if (rs_andc (rs_T (rs_op (rs_var rfl (rs_c (rs_neS (rs_asB ⟨fun z => by simp at z, fun _ => ⟨fun z => (by cases z), fun _ => ss_nx ?_⟩⟩)))))))))
      exact ss_ret (rs_tup (rs_cons (rs_var rfl (rs_cons (rs_var rfl (rs_nil ⟨Nat.le_of_ble_eq_true rfl, rfl⟩))))))
  | some y =>
    obtain ⟨p, q⟩ := y
    obtain ⟨hp, hq⟩ := brk_len hb
    dsimp only
    refine ⟨[some (wD w), some (wD p), some (wD [46]), some (wD q)], rfl, ?_⟩
    refine ss_seq (ss_if (rs_and (rs_T (rs_op (rs_var rfl (rs_c (rs_neS (rs_asB (rs_not (rs_T (rs_call (rs_cons (rs_var (d := wD p) rfl (rs_nil (Rs.of (is_name_eq (by omega)) (rs_asB ⟨fun z => ?_, fun z => ?_⟩))))))))))))))))
    · have : okKd p = false := by
        unfold okKd
        cases h1 : decide (p = [42]) <;> cases h2 : nmB p <;> simp [h1, h2] at z ⊢
      rw [this]
      exact ss_ret (rs_c rfl)
    · have : okKd p = true := by
        unfold okKd
        cases h1 : decide (p = [42]) <;> cases h2 : nmB p <;> simp [h1, h2] at z ⊢
      rw [this]
      refine ss_nx (ss_seq (ss_if (rs_andc (rs_T (rs_op (rs_var rfl (rs_c (rs_neS (rs_asB ⟨fun _ => rs_not (rs_T (rs_call (rs_cons (rs_var (d := wD q) rfl (rs_nil (Rs.of (is_name_eq (by omega)) (rs_asB ⟨fun z => ?_, fun z => ss_nx ?_⟩))))))), fun z => by simp at z⟩)))))))))
      · have : nmB q = false := by cases h : nmB q <;> simp [h] at z ⊢
        rw [this]
        exact ss_ret (rs_c rfl)
      · have : nmB q = true := by cases h : nmB q <;> simp [h] at z ⊢
        rw [this]
        exact ss_ret (rs_tup (rs_cons (rs_var rfl (rs_cons (rs_var rfl (rs_nil ⟨Nat.le_of_ble_eq_true rfl, rfl⟩)))))))
inductive Ln where
  | st | an | pa | el
  deriving DecidableEq
def lnW : Ln → List Nat
  | .st => [115, 116, 97, 114, 116]
  | .an => [97, 110, 99, 101, 115, 116, 111, 114]
  | .pa => [112, 97, 114, 101, 110, 116]
  | .el => [101, 108, 100, 101, 114]
theorem lnW_an {k : Ln} : lnW k = [97, 110, 99, 101, 115, 116, 111, 114] ↔ k = .an := by cases k <;> decide
def lkW (w : List Nat) : Option Ln := if w = [62] then some .pa else if w = [43] then some .el else none
theorem look_links (w : List Nat) : lookD md_LINKS (Sg w) = (lkW w).map fun k => wD (lnW k) := by
  unfold md_LINKS lkW
  show (if Sg [62] = Sg w then _ else if Sg [43] = Sg w then _ else none) = _
  by_cases h1 : w = [62]
  · subst h1; rfl
  · rw [if_neg fun z => h1 (ST_inj.mp z).symm, if_neg h1]
    by_cases h2 : w = [43]
    · subst h2; rfl
    · rw [if_neg fun z => h2 (ST_inj.mp z).symm, if_neg h2]; rfl
theorem rs_mdIn {rows : List (Str × D)} {z : Str} {Q : D → Prop} {E : Str → List Str → List D → Prop} (q : Q (.bl (lookD rows z).isSome)) : Rs (mdIn false rows (.str z)) Q E := q
theorem rs_mdGet {rows : List (Str × D)} {z : Str} {d : D} {Q : D → Prop} {E : Str → List Str → List D → Prop} (h : lookD rows z = some d) (q : Q d) : Rs (mdGet rows (.str z)) Q E := by
  unfold mdGet; dsimp only; rw [h]; exact q
def rdP : List (List Nat) → Ln → List TT → List Ln → Option (List TT × List Ln × Ln)
  | [], k, ts, ls => some (ts, ls, k)
  | w :: ws, k, ts, ls => if k = .an ∧ (lkW w).isSome = true then rdP ws ((lkW w).getD .st) ts ls else match testP w with
    | none => none
    | some t => rdP ws .an (ts ++ [t]) (ls ++ [k])
def readT (l : List Nat) : Option (List TT × List Ln) := match rdP (spc 32 l) .st [] [] with
  | some (ts, ls, k) => if k = .an ∧ ts.length ≤ 4 then some (ts, ls) else none
  | none => none
theorem spc_ln {c : Nat} {l w : List Nat} (h : w ∈ spc c l) : w.length ≤ l.length := by
  have : ∀ (l acc : List Nat), ∀ w ∈ TL.spl [c] 0 acc l, w.length ≤ acc.length + l.length := by
    intro l
    induction l with
    | nil => intro acc w hw; rw [TL.spl_nil] at hw; rw [List.mem_singleton.mp hw]; simp
    | cons x r ih =>
      intro acc w hw
      rw [spl_cons] at hw
      by_cases hx : x = c
      · rw [if_pos hx] at hw
        rcases List.mem_cons.mp hw with rfl | hw
        · omega
        · have := ih [] w hw; simp at this ⊢; omega
      · rw [if_neg hx] at hw
        have := ih (acc ++ [x]) w hw
        simp at this ⊢; omega
  have := this l [] w h
  simpa using this
theorem spc_many (c : Nat) (l : List Nat) : (spc c l).length ≤ l.length + 1 := by
  have : ∀ (l acc : List Nat), (TL.spl [c] 0 acc l).length ≤ l.length + 1 := by
    intro l
    induction l with
    | nil => intro acc; rw [TL.spl_nil]; simp
    | cons x r ih =>
      intro acc
      rw [spl_cons]
      by_cases hx : x = c
      · rw [if_pos hx]; have := ih []; simp at this ⊢; omega
      · rw [if_neg hx]; have := ih (acc ++ [x]); simp at this ⊢; omega
  exact this l []
theorem read_pattern_eq {l : List Nat} (hl : l.length ≤ 9000) : F_read_pattern [wD l] = .ok (match readT l with
    | none => .non
    | some (ts, ls) => .tup [.tup (ts.map ttD), .tup (ls.map fun k => wD (lnW k))]) := Rs.eq (by
  refine rs_run ?_
  unfold Fb_read_pattern
  show Ss (seqF _ _ [some (wD l), none, none, none, none, none]) _ _ _ _ _
  refine ss_seq (ss_set (rs_lst (rs_nil ⟨Nat.zero_le _, ?_⟩)))
  refine ss_seq (ss_set (rs_lst (rs_nil ⟨Nat.zero_le _, ?_⟩)))
  refine ss_seq (ss_set (rs_c ?_))
  refine ss_seq (ss_each wD (spc 32 l) (fun i r => ∃ ts ls k x4 x5, r = [some (wD l), some (.lst (ts.map ttD)), some (.lst (ls.map fun k => wD (lnW k))), some (wD (lnW k)), x4, x5] ∧ ts.length ≤ i ∧ ls.length ≤ i ∧ rdP ((spc 32 l).drop i) k ts ls = rdP (spc 32 l) .st [] []) ?_ ?_ ?_ ?_)
  · exact rs_str (rs_var rfl (rs_asS (rs_c (rs_split ⟨by decide, Nat.le_trans (show _ ≤ 100000 by omega) sz5⟩ rfl))))
  · exact ⟨[], [], .st, none, none, rfl, by simp, by simp, rfl⟩
  · rintro i w r hw ⟨ts, ls, k, x4, x5, rfl, h1, h2, h3⟩
    have hwl : w.length ≤ 10000 := by have := spc_ln (List.mem_of_getElem? hw); omega
    have hil : i ≤ 9001 := by
      have := (List.getElem?_eq_some_iff.mp hw).1
      have := spc_many 32 l
      omega
    have hd : (spc 32 l).drop i = w :: (spc 32 l).drop (i + 1) := by
      obtain ⟨hi, e⟩ := List.getElem?_eq_some_iff.mp hw
      rw [List.drop_eq_getElem_cons hi, e]
    rw [hd, rdP] at h3
    show Ss (Lp_read_pattern_1 [some (wD l), some (.lst (ts.map ttD)), some (.lst (ls.map fun k => wD (lnW k))), some (wD (lnW k)), some (wD w), x5]) _ _ _ _ _
    unfold Lp_read_pattern_1
    refine ss_seq (ss_if (rs_and (rs_T (rs_un (rs_var (d := wD w) rfl (rs_mdIn (rs_asB (rs_T (rs_op (rs_var rfl (rs_c (rs_eqS (rs_asB ⟨fun z => ?_, fun z => ?_⟩)))))))))))))
    · rw [look_links, Bool.and_eq_true, decide_eq_true_eq, lnW_an, Option.isSome_map] at z
      obtain ⟨z1, z2⟩ := z
      rw [if_pos ⟨z2, z1⟩] at h3
      obtain ⟨k', hk'⟩ := Option.isSome_iff_exists.mp z1
      rw [hk'] at h3
      refine ss_seq (ss_set (rs_un (rs_var (d := wD w) rfl (rs_mdGet (d := wD (lnW k')) (by rw [look_links, hk']; rfl) ?_))))
      exact ss_ct ⟨ts, ls, k', _, x5, rfl, by omega, by omega, h3⟩
    · have hn : ¬ (k = .an ∧ (lkW w).isSome = true) := fun h => by
        rw [look_links, Option.isSome_map, h.2, decide_eq_true (lnW_an.mpr h.1)] at z
        cases z
      rw [if_neg hn] at h3
      refine ss_nx (ss_seq (ss_set (rs_call (rs_cons (rs_var (d := wD w) rfl (rs_nil (Rs.of (read_test_eq hwl) ?_)))))))
      cases ht : testP w with
      | none =>
        rw [ht] at h3
        refine ss_seq (ss_if (rs_T (rs_op (rs_var rfl (rs_c (rs_is (rs_asB ⟨fun _ => ?_, fun z => (by cases z)⟩)))))))
        refine ss_ret (rs_c ?_)
        unfold readT
        rw [← h3]
      | some t =>
        rw [ht] at h3
        dsimp only at h3
        refine ss_seq (ss_if (rs_T (rs_op (rs_var rfl (rs_c (rs_is (rs_asB ⟨fun z => (by cases z), fun _ => ss_nx ?_⟩)))))))
        refine ss_seq (ss_app (ds := ts.map ttD) rfl (rs_var (d := ttD t) rfl ⟨Nat.lt_of_lt_of_le (show _ < 100000 by rw [List.length_map]; omega) sz5, ?_⟩))
        refine ss_seq (ss_app (ds := ls.map fun k => wD (lnW k)) rfl (rs_var (d := wD (lnW k)) rfl ⟨Nat.lt_of_lt_of_le (show _ < 100000 by rw [List.length_map]; omega) sz5, ?_⟩))
        refine ss_set (rs_c ⟨ts ++ [t], ls ++ [k], .an, some (wD w), some (ttD t), ?_, by rw [List.length_append]; simp; omega, by rw [List.length_append]; simp; omega, h3⟩)
        rw [List.map_append, List.map_append]
        rfl
  · rintro r ⟨ts, ls, k, x4, x5, rfl, h1, h2, h3⟩
    rw [List.drop_length, rdP] at h3
    unfold readT
    rw [← h3]
    dsimp only
    have := spc_many 32 l
    refine ss_seq (ss_if (rs_or (rs_T (rs_op (rs_var rfl (rs_c (rs_neS (rs_asB (rs_T (rs_op (rs_call (rs_cons (rs_var (d := .lst (ts.map ttD)) rfl (rs_nil (rs_lenL (rs_c (rs_gt (rs_asB ⟨fun z => ?_, fun z => ss_nx ?_⟩))))))))))))))))))
    · have : ¬ (k = .an ∧ ts.length ≤ 4) := fun h => by
        rw [decide_eq_true (lnW_an.mpr h.1), decide_eq_false (by rw [List.length_map]; omega)] at z
        cases z
      rw [if_neg this]
      exact ss_ret (rs_c rfl)
    · have : k = .an ∧ ts.length ≤ 4 := by
        rw [Bool.or_eq_false_iff] at z
        refine ⟨lnW_an.mp (by simpa using z.1), ?_⟩
        have := of_decide_eq_false z.2
        rw [List.length_map] at this
        omega
      rw [if_pos this]
      refine ss_ret (rs_tup (rs_cons (rs_call (rs_cons (rs_var (d := .lst (ts.map ttD)) rfl (rs_nil (rs_tupL (rs_cons (rs_call (rs_cons (rs_var (d := .lst (ls.map fun k => wD (lnW k))) rfl (rs_nil (rs_tupL (rs_nil ⟨Nat.le_of_ble_eq_true rfl, rfl⟩)))))))))))))))
end
section
def LNP : List Int := [3, 8, 8, 26, 26, 26, 26, 26, 26, 26, 26, 26]
theorem names_sp (c : Int) (m : Nat) (hm : m ≤ 8) : Rs (F_l_names [.int c, .int (m : Int)]) (fun d => ∃ ws : List (List Nat), d = .lst (ws.map wD) ∧ ws.length = m ∧ ∀ w ∈ ws, Nm w) nE := by
  refine rs_run ?_
  unfold Fb_l_names
  show Ss (seqF _ _ [some (.int c), some (.int (m : Int)), none, none, none, none, none, none]) _ _ _ _ _
  refine ss_seq (ss_set (rs_call (rs_cons (rs_var rfl (rs_cons (rs_lst (rs_cons (rs_c (rs_cons (rs_c (rs_cons (rs_c (rs_cons (rs_c (rs_cons (rs_c (rs_cons (rs_c (rs_cons (rs_c (rs_cons (rs_c (rs_cons (rs_c (rs_cons (rs_c (rs_cons (rs_c (rs_cons (rs_c (rs_nil ⟨Nat.le_of_ble_eq_true rfl, rs_nil ?_⟩)))))))))))))))))))))))))))))))
  show Rs (F_l_row [.int c, iL LNP]) _ _
  refine row_of c LNP (by decide) (by decide) fun vs hf => ?_
  have hvl : vs.length = 12 := hf.len
  refine ss_seq (ss_cut (fun r => ∃ A : List Nat, A.length = 26 ∧ (∀ c ∈ A, 97 ≤ c ∧ c ≤ 122) ∧ r = [some (.int c), some (.int (m : Int)), some (iL vs), some (wD A), none, none, none, none]) (ss_set (rs_c ⟨_, rfl, by decide, rfl⟩)) ?_)
  rintro _ ⟨A, hA, hAl, rfl⟩
  obtain ⟨v0, hv0, h00, h01⟩ := hf.get (k := 0) (l := 3) rfl
  obtain ⟨v1, hv1, h10, h11⟩ := hf.get (k := 1) (l := 8) rfl
  obtain ⟨v2, hv2, h20, h21⟩ := hf.get (k := 2) (l := 8) rfl
  obtain ⟨v3, hv3, h30, h31⟩ := hf.get (k := 3) (l := 26) rfl
  have ix : ∀ {k : Nat} {v i : Int} {Q : D → Prop} {E : Str → List Str → List D → Prop}, vs[k]? = some v → i = (k : Int) → Q (.int v) → Rs (ixD (iL vs) (.int i)) Q E := fun h e q => by
    subst e
    exact rs_ixL (atI_nat (by rw [List.getElem?_map, h]; rfl)) q
  refine ss_seq (ss_if (rs_T (rs_op (rs_op (rs_var rfl (rs_c (ix hv0 rfl (rs_c (rs_eqI (rs_asB ⟨fun _ => ?_, fun z0 => ss_nx ?_⟩))))))))))
  · refine ss_ret (rs_sl (rs_lst (rs_cons (rs_c (rs_cons (rs_c (rs_cons (rs_c (rs_cons (rs_c (rs_cons (rs_c (rs_cons (rs_c (rs_cons (rs_c (rs_cons (rs_c (rs_nil ⟨Nat.le_of_ble_eq_true rfl, rs_noP (rs_part (rs_var rfl (rs_asI (rs_slL ?_))))⟩)))))))))))))))))))
    rw [cut_take]
    refine ⟨[[100, 111, 99], [112, 97, 114], [101, 109], [104, 101, 97, 100], [110, 111, 116, 101], [97], [98], [120]].take m, by rw [List.map_take]; rfl, by rw [List.length_take]; simp; omega, fun w hw => ?_⟩
    have : ∀ w ∈ ([[100, 111, 99], [112, 97, 114], [101, 109], [104, 101, 97, 100], [110, 111, 116, 101], [97], [98], [120]] : List (List Nat)), Nm w := by
      unfold Nm; decide
    exact this w (List.mem_of_mem_take hw)
  have hps : ∀ p ∈ vs.drop 4, 0 ≤ p ∧ p < (A.length : Int) := by
    rw [hA]
    exact fit_mem (ls := LNP.drop 4) (fit_drop2 4 hf) (by decide)
  have hpl : (vs.drop 4).length = 8 := by rw [List.length_drop, hvl]
  refine ss_seq (ss_set (word_sp (A := A) (ps := vs.drop 4) (by omega) hps (by omega) ?_ rfl (by show 5 < 8; omega) (by decide) ?_))
  · refine rs_it (rs_sl (rs_var rfl (rs_part (rs_c (rs_asI (rs_noP (rs_slL ?_)))))))
    rw [show (4 : Int) = ((4 : Nat) : Int) from rfl, cut_drop, ← List.map_drop]
    rfl
  obtain ⟨W, hW, hWl⟩ : ∃ W : List Nat, W = (vs.drop 4).map (fun p => A.getD p.toNat 0) ∧ W.length = 8 := ⟨_, rfl, by rw [List.length_map, hpl]⟩
  have hWa : ∀ c ∈ W, 97 ≤ c ∧ c ≤ 122 := fun c hc => hAl c (pick_mem hps c (by rw [← hW]; exact hc))
  rw [← hW]
  show Ss (seqF _ _ [some (.int c), some (.int (m : Int)), some (iL vs), some (wD A), some (wD W), none, none, none]) _ _ _ _ _
  refine ss_seq (ss_if (rs_T (rs_op (rs_op (rs_var rfl (rs_c (ix hv0 rfl (rs_c (rs_eqI (rs_asB ⟨fun _ => ?_, fun z1 => ss_nx ?_⟩))))))))))
  · refine ss_ret (rs_lc (fun k : Nat => D.int (k : Int)) (fun k => wD (W.take (k + 1))) (List.range m) (rs_rngC (rs_var rfl rfl) (by omega)) (Nat.le_trans (show _ ≤ 100000 by rw [List.length_range]; omega) sz5) (fun k hk => ⟨_, rfl, rfl, ?_⟩) ?_)
    · refine rs_sl (rs_var (d := wD W) rfl (rs_noP (rs_part (rs_op (rs_var (d := .int (k : Int)) rfl (rs_c (rs_add (rs_asI (rs_slS (Nat.le_trans (show _ ≤ 100000 by omega) sz5) ?_)))))))))
      rw [show ((k : Int) + 1) = ((k + 1 : Nat) : Int) by omega, cut_take]
      rfl
    · refine ⟨(List.range m).map fun k => W.take (k + 1), by rw [List.map_map]; rfl, by rw [List.length_map, List.length_range], fun w hw => ?_⟩
      obtain ⟨k, hk, rfl⟩ := List.mem_map.mp hw
      have hk := List.mem_range.mp hk
      exact ⟨by rw [List.length_take]; omega, by rw [List.length_take]; omega, fun c hc => hWa c (List.mem_of_mem_take hc)⟩
  have ha0 : 0 ≤ v2 % (v1 + 1) := Int.emod_nonneg _ (by omega)
  have ha1 : v2 % (v1 + 1) < v1 + 1 := Int.emod_lt_of_pos _ (by omega)
  obtain ⟨a, ha⟩ : ∃ a : Nat, v2 % (v1 + 1) = (a : Int) := ⟨(v2 % (v1 + 1)).toNat, by omega⟩
  obtain ⟨b, hb⟩ : ∃ b : Nat, v1 = (b : Int) := ⟨v1.toNat, by omega⟩
  rw [ha] at ha1
  refine ss_seq (ss_set (rs_op (rs_call (rs_cons (rs_op (rs_var rfl (rs_c (ix hv2 rfl (rs_nil (rs_int (rs_op (rs_op (rs_var rfl (rs_c (ix hv1 rfl (rs_c (rs_add (rs_mod (by omega) ?_))))))))))))))))))
  rw [ha]
  refine ss_seq (ss_set (rs_sl (rs_var (d := wD W) rfl (rs_part (rs_op (rs_var rfl (rs_c (rs_add (rs_asI (rs_part (rs_op (rs_op (rs_var rfl (rs_c (ix hv1 rfl (rs_c (rs_add (rs_asI (rs_slS (Nat.le_trans (show _ ≤ 100000 by omega) sz5) ?_)))))))))))))))))))
  rw [hb, show ((a : Int) + 1) = ((a + 1 : Nat) : Int) by omega, show ((b : Int) + 1) = ((b + 1 : Nat) : Int) by omega, cut_mid]
  refine ss_ret (rs_lc (fun k : Nat => D.int (k : Int)) (fun k => wD ((W.take a ++ [A.getD ((v3 + (k : Int)) % 26).toNat 0]) ++ (W.take (b + 1)).drop (a + 1))) (List.range m) (rs_rngC (rs_var rfl rfl) (by omega)) (Nat.le_trans (show _ ≤ 100000 by rw [List.length_range]; omega) sz5) (fun k hk => ⟨_, rfl, rfl, ?_⟩) ?_)
  · have hk := List.mem_range.mp hk
    refine rs_op (rs_op (rs_sl (rs_var (d := wD W) rfl (rs_noP (rs_part (rs_var (d := .int (a : Int)) rfl (rs_asI (rs_slS (Nat.le_trans (show _ ≤ 100000 by omega) sz5) ?_))))))))
    rw [cut_take]
    refine rs_op (rs_var (d := wD A) rfl (rs_op (rs_call (rs_cons (rs_op (rs_op (rs_var rfl (rs_c (ix hv3 rfl (rs_var (d := .int (k : Int)) rfl (rs_add (rs_nil (rs_int (rs_c (rs_mod (by omega) ?_)))))))))))))))
    have e0 : 0 ≤ (v3 + (k : Int)) % 26 := by omega
    have e1 : ((v3 + (k : Int)) % 26).toNat < A.length := by omega
    refine rs_ixS (n := A.getD ((v3 + (k : Int)) % 26).toNat 0) ⟨Nat.le_trans (show _ ≤ 100000 by omega) sz5, at_pos e0 (by rw [List.getD_eq_getElem?_getD, List.getElem?_eq_getElem e1]; rfl)⟩ ?_
    refine rs_addS (Nat.le_trans (show _ ≤ 100000 by rw [List.length_take]; simp; omega) sz5) (rs_var (d := wD ((W.take (b + 1)).drop (a + 1))) rfl (rs_addS (Nat.le_trans (show _ ≤ 100000 by rw [List.length_append, List.length_take, List.length_drop, List.length_take]; simp; omega) sz5) rfl))
  · refine ⟨(List.range m).map fun (k : Nat) => (W.take a ++ [A.getD ((v3 + (k : Int)) % 26).toNat 0]) ++ (W.take (b + 1)).drop (a + 1), by rw [List.map_map]; rfl, by rw [List.length_map, List.length_range], fun w hw => ?_⟩
    obtain ⟨k, hk, rfl⟩ := List.mem_map.mp hw
    have e1 : ((v3 + (k : Int)) % 26).toNat < A.length := by omega
    refine ⟨by simp; omega, by simp [hWl]; omega, fun c hc => ?_⟩
    rcases List.mem_append.mp hc with hc | hc
    · rcases List.mem_append.mp hc with hc | hc
      · exact hWa c (List.mem_of_mem_take hc)
      · rw [List.mem_singleton.mp hc, List.getD_eq_getElem?_getD, List.getElem?_eq_getElem e1]
        exact hAl _ (List.getElem_mem e1)
    · exact hWa c (List.mem_of_mem_take (List.mem_of_mem_drop hc))
theorem spc_app (c : Nat) (a b : List Nat) : spc c (a ++ c :: b) = spc c a ++ spc c b := by
  have : ∀ (a acc : List Nat), TL.spl [c] 0 acc (a ++ c :: b) = TL.spl [c] 0 acc a ++ TL.spl [c] 0 [] b := by
    intro a
    induction a with
    | nil => intro acc; rw [List.nil_append, spl_cons, if_pos rfl, TL.spl_nil]; rfl
    | cons x r ih =>
      intro acc
      rw [List.cons_append, spl_cons, spl_cons]
      by_cases h : x = c
      · rw [if_pos h, if_pos h, ih]; rfl
      · rw [if_neg h, if_neg h, ih]
  exact this a []
theorem brk_no {c : Nat} : ∀ {a : List Nat}, c ∉ a → brk c a = none
  | [], _ => rfl
  | x :: r, h => by
    unfold brk
    rw [if_neg (fun e => h (by rw [e]; exact List.mem_cons_self ..)), brk_no fun m => h (List.mem_cons_of_mem _ m)]
theorem brk_mid {c : Nat} : ∀ {p q : List Nat}, c ∉ p → brk c (p ++ c :: q) = some (p, q)
  | [], q, _ => by show brk c (c :: q) = _; unfold brk; rw [if_pos rfl]
  | x :: r, q, h => by
    show brk c (x :: (r ++ c :: q)) = _
    unfold brk
    rw [if_neg (fun e => h (by rw [e]; exact List.mem_cons_self ..)), brk_mid fun m => h (List.mem_cons_of_mem _ m)]
theorem rdP_app : ∀ (ws us : List (List Nat)) (k : Ln) (ts : List TT) (ls : List Ln), rdP (ws ++ us) k ts ls = (rdP ws k ts ls).bind fun y => rdP us y.2.2 y.1 y.2.1
  | [], us, k, ts, ls => by rw [rdP]; rfl
  | w :: ws, us, k, ts, ls => by
    rw [List.cons_append, rdP, rdP]
    by_cases h : k = .an ∧ (lkW w).isSome = true
    · rw [if_pos h, if_pos h, rdP_app]
    · rw [if_neg h, if_neg h]
      cases testP w with
      | none => rfl
      | some t => dsimp only; rw [rdP_app]
/-- a written test: no blank in it, no link -/
structure Wd (w : List Nat) (t : TT) : Prop where
  bl : 32 ∉ w
  lk : lkW w = none
  te : testP w = some t
  ln : w.length ≤ 17
def KdOk (w : List Nat) : Prop := w = [42] ∨ Nm w
theorem nm_not {w : List Nat} {c : Nat} (h : Nm w) (hc : c < 97) : c ∉ w := fun m => by have := (h.2.2 c m).1; omega
theorem kd_not {w : List Nat} {c : Nat} (h : KdOk w) (hc : c < 97) (h2 : c ≠ 42) : c ∉ w := by
  rcases h with rfl | h
  · simp [h2]
  · exact nm_not h hc
theorem kd_ok {w : List Nat} (h : KdOk w) : okKd w = true := by
  unfold okKd
  rcases h with rfl | h
  · rfl
  · rw [nmB_iff.mpr h, Bool.or_true]
theorem kd_len {w : List Nat} (h : KdOk w) : 0 < w.length ∧ w.length ≤ 8 := by
  rcases h with rfl | h
  · exact ⟨by decide, by decide⟩
  · exact ⟨h.1, h.2.1⟩
theorem lk_none {w : List Nat} (h : 62 ∉ w) (h2 : 43 ∉ w) : lkW w = none := by
  unfold lkW
  rw [if_neg (fun e => h (by rw [e]; exact List.mem_cons_self ..)), if_neg (fun e => h2 (by rw [e]; exact List.mem_cons_self ..))]
theorem wd_kind {k : List Nat} (h : KdOk k) : Wd k (k, []) := ⟨kd_not h (by omega) (by omega), lk_none (kd_not h (by omega) (by omega)) (kd_not h (by omega) (by omega)), by
  unfold testP
  rw [brk_no (kd_not h (by omega) (by omega))]
  dsimp only
  rw [if_pos (kd_ok h)], by have := kd_len h; omega⟩
theorem wd_mark {k m : List Nat} (h : KdOk k) (hm : Nm m) : Wd (k ++ 46 :: m) (k, m) := by
  have n : ∀ c : Nat, c < 97 → c ≠ 42 → c ≠ 46 → c ∉ k ++ 46 :: m := fun c h1 h2 h3 hc => by
    rcases List.mem_append.mp hc with hc | hc
    · exact kd_not h h1 h2 hc
    · rcases List.mem_cons.mp hc with hc | hc
      · exact h3 hc
      · exact nm_not hm h1 hc
  refine ⟨n 32 (by omega) (by omega) (by omega), lk_none (n 62 (by omega) (by omega) (by omega)) (n 43 (by omega) (by omega) (by omega)), ?_, ?_⟩
  · unfold testP
    rw [brk_mid (kd_not h (by omega) (by omega))]
    dsimp only
    rw [kd_ok h, nmB_iff.mpr hm]
    rfl
  · have := kd_len h
    have := hm.2.1
    rw [List.length_append, List.length_cons]
    omega
theorem rdP_one {w : List Nat} {t : TT} (h : Wd w t) (k : Ln) (ts : List TT) (ls : List Ln) : rdP [w] k ts ls = some (ts ++ [t], ls ++ [k], .an) := by
  rw [rdP, if_neg (fun e => by rw [h.lk] at e; cases e.2), h.te]
  rfl
/-- how a link is written -/
def sepL : Ln → List Nat
  | .st => [32]
  | .an => [32]
  | .pa => [32, 62, 32]
  | .el => [32, 43, 32]
theorem rdP_first {w : List Nat} {t : TT} (h : Wd w t) : rdP (spc 32 w) .st [] [] = some ([t], [.st], .an) := by
  rw [spc_none h.bl, rdP_one h]
  rfl
theorem rdP_more {x w : List Nat} {t : TT} {ts : List TT} {ls : List Ln} {k : Ln} (hk : k ≠ .st) (hx : rdP (spc 32 x) .st [] [] = some (ts, ls, .an)) (h : Wd w t) : rdP (spc 32 (x ++ sepL k ++ w)) .st [] [] = some (ts ++ [t], ls ++ [k], .an) := by
  cases k with
  | st => exact (hk rfl).elim
  | an =>
    show rdP (spc 32 (x ++ [32] ++ w)) _ _ _ = _
    rw [show x ++ [32] ++ w = x ++ 32 :: w by simp, spc_app, rdP_app, hx]
    show rdP (spc 32 w) .an ts ls = _
    rw [spc_none h.bl, rdP_one h]
  | pa =>
    show rdP (spc 32 (x ++ [32, 62, 32] ++ w)) _ _ _ = _
    rw [show x ++ [32, 62, 32] ++ w = x ++ 32 :: ([62] ++ 32 :: w) by simp, spc_app, rdP_app, hx, spc_app, spc_none (a := [62]) (by decide), spc_none h.bl]
    show rdP [[62], w] .an ts ls = _
    rw [rdP, if_pos ⟨rfl, rfl⟩]
    exact rdP_one h .pa ts ls
  | el =>
    show rdP (spc 32 (x ++ [32, 43, 32] ++ w)) _ _ _ = _
    rw [show x ++ [32, 43, 32] ++ w = x ++ 32 :: ([43] ++ 32 :: w) by simp, spc_app, rdP_app, hx, spc_app, spc_none (a := [43]) (by decide), spc_none h.bl]
    show rdP [[43], w] .an ts ls = _
    rw [rdP, if_pos ⟨rfl, rfl⟩]
    exact rdP_one h .el ts ls
theorem readT_of {x : List Nat} {ts : List TT} {ls : List Ln} (h : rdP (spc 32 x) .st [] [] = some (ts, ls, .an)) (h4 : ts.length ≤ 4) : readT x = some (ts, ls) := by
  unfold readT
  rw [h]
  dsimp only
  rw [if_pos ⟨rfl, h4⟩]
end
section
inductive Tr where
  | tx (l : List Nat)
  | el (k m : List Nat) (ks : List Tr)
mutual
def tD : Tr → D
  | .tx l => .str (Sg l)
  | .el k m ks => .tup [wD k, wD m, .tup (tDs ks)]
def tDs : List Tr → List D
  | [] => []
  | t :: ts => tD t :: tDs ts
end
theorem tD_tx (l : List Nat) : tD (.tx l) = .str (Sg l) := by rw [tD]
theorem tDs_map : ∀ ks : List Tr, tDs ks = ks.map tD
  | [] => by simp [tDs]
  | t :: ts => by rw [tDs, tDs_map ts]; rfl
theorem tD_el (k m : List Nat) (ks : List Tr) : tD (.el k m ks) = .tup [wD k, wD m, .tup (ks.map tD)] := by rw [tD, tDs_map]
mutual
def sz : Tr → Nat
  | .tx _ => 1
  | .el _ _ ks => 1 + szs ks
def szs : List Tr → Nat
  | [] => 0
  | t :: ts => sz t + szs ts
end
theorem szs_sum : ∀ ks : List Tr, szs ks = (ks.map sz).sum
  | [] => by simp [szs]
  | t :: ts => by rw [szs, szs_sum ts]; rfl
theorem sz_pos : ∀ t : Tr, 1 ≤ sz t
  | .tx _ => by rw [sz]; exact Nat.le_refl _
  | .el _ _ ks => by rw [sz]; omega
theorem len_szs : ∀ ks : List Tr, ks.length ≤ szs ks
  | [] => by simp [szs]
  | t :: ts => by have := len_szs ts; have := sz_pos t; rw [szs, List.length_cons]; omega
def isTx : Tr → Bool
  | .tx _ => true
  | .el _ _ _ => false
theorem sz_el (k m : List Nat) (ks : List Tr) : sz (.el k m ks) = 1 + szs ks := by rw [sz]
theorem le_sum : ∀ (l : List Nat) (x : Nat), x ∈ l → x ≤ l.sum
  | y :: l, x, h => by
    rw [List.sum_cons]
    rcases List.mem_cons.mp h with h | h
    · omega
    · have := le_sum l x h; omega
/-- no two texts side by side -/
def NoAdj : List Tr → Prop
  | a :: b :: l => ¬ (isTx a = true ∧ isTx b = true) ∧ NoAdj (b :: l)
  | _ => True
theorem NoAdj.snoc : ∀ {ks : List Tr} {u : Tr}, NoAdj ks → (∀ ks' v, ks = ks' ++ [v] → isTx v = true → isTx u = false) → NoAdj (ks ++ [u])
  | [], _, _, _ => trivial
  | [a], u, _, h => ⟨fun z => (by have := h [] a rfl z.1; rw [this] at z; exact Bool.noConfusion z.2), trivial⟩
  | a :: b :: l, u, n, h => ⟨n.1, NoAdj.snoc (ks := b :: l) n.2 fun ks' v e => h (a :: ks') v (by rw [e]; rfl)⟩
end
section
def encN : Nat → (Nat → Bool) → Nat
  | 0, _ => 0
  | n + 1, b => encN n b + (if b n = true then 2 ^ n else 0)
theorem encN_lt (b : Nat → Bool) : ∀ n, encN n b < 2 ^ n
  | 0 => Nat.one_pos
  | n + 1 => by
    have := encN_lt b n
    rw [encN, Nat.pow_succ]
    split <;> omega
theorem encN_bit (b : Nat → Bool) (i : Nat) : ∀ n, (encN n b).testBit i = (decide (i < n) && b i)
  | 0 => by simp [encN]
  | n + 1 => by
    have h1 := encN_lt b n
    have ih := encN_bit b i n
    rw [encN]
    by_cases hb : b n = true
    · rw [if_pos hb, Nat.add_comm, show 2 ^ n + encN n b = 2 ^ n * 1 + encN n b by omega, Nat.two_pow_add_eq_or_of_lt h1 1, Nat.testBit_or, Nat.mul_one, Nat.testBit_two_pow, ih]
      by_cases e : n = i
      · subst e; simp [hb]
      · by_cases l : i < n
        · simp [e, l, show i < n + 1 by omega]
        · simp [e, l, show ¬ i < n + 1 by omega]
    · have hb : b n = false := by simpa using hb
      rw [if_neg (by rw [hb]; decide), Nat.add_zero, ih]
      by_cases e : n = i
      · subst e; simp [hb]
      · by_cases l : i < n
        · simp [l, show i < n + 1 by omega]
        · simp [l, show ¬ i < n + 1 by omega]
theorem encN_eq {n : Nat} {a b : Nat → Bool} (h : ∀ i, i < n → a i = b i) : encN n a = encN n b := by
  induction n with
  | zero => rfl
  | succ n ih => rw [encN, encN, ih fun i hi => h i (by omega), h n (by omega)]
theorem enc_ext {x n : Nat} {b : Nat → Bool} (h : ∀ i, x.testBit i = (decide (i < n) && b i)) : x = encN n b := Nat.eq_of_testBit_eq fun i => by rw [h, encN_bit]
theorem band (a b : Nat) : Builtin.bitAnd (a : Int) (b : Int) = ((a &&& b : Nat) : Int) := by simp [Builtin.bitAnd]
theorem bor (a b : Nat) : Builtin.bitOr (a : Int) (b : Int) = ((a ||| b : Nat) : Int) := by
  have n1 : ∀ x : Nat, ¬ (0 : Int) ≤ Builtin.bitNot (x : Int) := fun x => by unfold Builtin.bitNot; omega
  have n2 : ∀ x : Nat, Builtin.bitNot (Builtin.bitNot (x : Int)) = (x : Int) := fun x => by unfold Builtin.bitNot; omega
  unfold Builtin.bitOr Builtin.bitAnd
  rw [decide_eq_false (n1 a), decide_eq_false (n1 b)]
  dsimp only
  rw [n2, n2, n2]
  simp
theorem dbl_bit (x i : Nat) : (x * 2).testBit i = (decide (0 < i) && x.testBit (i - 1)) := by
  cases i with
  | zero => simp
  | succ i =>
    rw [Nat.testBit_succ, Nat.mul_div_cancel _ (by decide)]
    simp
theorem enc_zero (n : Nat) : encN n (fun _ => false) = 0 := by
  induction n with
  | zero => rfl
  | succ n ih => rw [encN, ih]; rfl
/-- the bits of these links -/
def lkB (ls : List Ln) (k : Ln) : Nat → Bool := fun i => decide (ls[i]? = some k)
def lnkD (ls : List Ln) : D := dkT [(lnW .st, .int (encN ls.length (lkB ls .st) : Nat)), (lnW .an, .int (encN ls.length (lkB ls .an) : Nat)), (lnW .pa, .int (encN ls.length (lkB ls .pa) : Nat)), (lnW .el, .int (encN ls.length (lkB ls .el) : Nat))]
def bitsD : Nat → List TT → List D
  | _, [] => []
  | i, t :: ts => .tup [ttD t, .int ((2 ^ i : Nat) : Int)] :: bitsD (i + 1) ts
theorem bitsD_app (t : TT) : ∀ (i : Nat) (ts : List TT), bitsD i (ts ++ [t]) = bitsD i ts ++ [.tup [ttD t, .int ((2 ^ (i + ts.length) : Nat) : Int)]]
  | i, [] => rfl
  | i, u :: ts => by
    rw [List.cons_append, bitsD, bitsD, bitsD_app t (i + 1) ts, List.length_cons, show i + 1 + ts.length = i + (ts.length + 1) by omega]
    rfl
theorem bitsD_get : ∀ (ts : List TT) (i j : Nat) (d : D), (bitsD i ts)[j]? = some d → ∃ t, ts[j]? = some t ∧ d = .tup [ttD t, .int ((2 ^ (i + j) : Nat) : Int)]
  | [], i, j, d, h => by simp [bitsD] at h
  | u :: ts, i, 0, d, h => by
    simp [bitsD] at h
    exact ⟨u, rfl, by rw [← h]; rfl⟩
  | u :: ts, i, j + 1, d, h => by
    rw [bitsD, List.getElem?_cons_succ] at h
    obtain ⟨t, h1, h2⟩ := bitsD_get ts (i + 1) j d h
    exact ⟨t, by rw [List.getElem?_cons_succ]; exact h1, by rw [h2, show i + 1 + j = i + (j + 1) by omega]⟩
theorem bitsD_len : ∀ (ts : List TT) (i : Nat), (bitsD i ts).length = ts.length
  | [], i => rfl
  | u :: ts, i => by rw [bitsD, List.length_cons, List.length_cons, bitsD_len]
def ptsD (ts : List TT) (ls : List Ln) (es : List Nat) : D := .obj "Points" ["tests", "linked", "ends"] [.lst (bitsD 0 ts), lnkD ls, iL (es.map fun (e : Nat) => ((2 ^ (e - 1) : Nat) : Int))]
theorem lkB_app (ls : List Ln) (k l : Ln) : encN (ls ++ [l]).length (lkB (ls ++ [l]) k) = encN ls.length (lkB ls k) + (if l = k then 2 ^ ls.length else 0) := by
  rw [List.length_append]
  show encN (ls.length + 1) _ = _
  rw [encN]
  congr 1
  · exact encN_eq fun i hi => by unfold lkB; rw [List.getElem?_append_left hi]
  · unfold lkB
    rw [List.getElem?_append_right (Nat.le_refl _), Nat.sub_self]
    by_cases e : l = k
    · subst e; simp
    · rw [if_neg e, if_neg (by simp [e])]
def lnkT (ls : List Ln) : TD := [(lnW .st, .int (encN ls.length (lkB ls .st) : Nat)), (lnW .an, .int (encN ls.length (lkB ls .an) : Nat)), (lnW .pa, .int (encN ls.length (lkB ls .pa) : Nat)), (lnW .el, .int (encN ls.length (lkB ls .el) : Nat))]
theorem lnk_nd (ls : List Ln) : NdK (lnkT ls) := by
  unfold NdK lnkT
  show [lnW .st, lnW .an, lnW .pa, lnW .el].Nodup
  decide
theorem lnk_get (ls : List Ln) (k : Ln) : lk (lnkT ls) (lnW k) = some (.int (encN ls.length (lkB ls k) : Nat)) := lk_of (lnk_nd ls) (by cases k <;> simp [lnkT])
theorem lnk_app (ls : List Ln) (l : Ln) : setT (lnkT ls) (lnW l) (.int ((encN ls.length (lkB ls l) : Nat) + ((2 ^ ls.length : Nat) : Int))) = lnkT (ls ++ [l]) := by
  have a : ∀ k, k ≠ l → encN (ls ++ [l]).length (lkB (ls ++ [l]) k) = encN ls.length (lkB ls k) := fun k h => by rw [lkB_app, if_neg (Ne.symm h), Nat.add_zero]
  have b : ((encN ls.length (lkB ls l) : Nat) : Int) + ((2 ^ ls.length : Nat) : Int) = ((encN (ls ++ [l]).length (lkB (ls ++ [l]) l) : Nat) : Int) := by rw [lkB_app, if_pos rfl, Int.natCast_add]
  rw [b]
  unfold lnkT
  cases l with
  | st => rw [a .an (by decide), a .pa (by decide), a .el (by decide)]; rfl
  | an => rw [a .st (by decide), a .pa (by decide), a .el (by decide)]; rfl
  | pa => rw [a .an (by decide), a .st (by decide), a .el (by decide)]; rfl
  | el => rw [a .an (by decide), a .pa (by decide), a .st (by decide)]; rfl
/-- a pattern: its text, tests, links -/
structure Pt where
  tx : List Nat
  ts : List TT
  ls : List Ln
def ptD (p : Pt) : D := .obj "Pattern" ["text", "tests", "links"] [wD p.tx, .tup (p.ts.map ttD), .tup (p.ls.map fun k => wD (lnW k))]
def PtOk (p : Pt) : Prop := p.ts.length = p.ls.length ∧ 0 < p.ts.length ∧ p.ts.length ≤ 4
def endsOf : Nat → List Pt → List Nat
  | _, [] => []
  | n, p :: ps => (n + p.ts.length) :: endsOf (n + p.ts.length) ps
theorem endsOf_app (q : Pt) : ∀ (n : Nat) (ps : List Pt), endsOf n (ps ++ [q]) = endsOf n ps ++ [n + ((ps ++ [q]).flatMap (·.ts)).length]
  | n, [] => by simp [endsOf]
  | n, p :: ps => by
    rw [List.cons_append, endsOf, endsOf, endsOf_app q]
    simp
    omega
theorem endsOf_len : ∀ (n : Nat) (ps : List Pt), (endsOf n ps).length = ps.length
  | n, [] => rfl
  | n, p :: ps => by rw [endsOf, List.length_cons, List.length_cons, endsOf_len]
theorem many_len : ∀ {ps : List Pt}, (∀ p ∈ ps, PtOk p) → (ps.flatMap (·.ts)).length = (ps.flatMap (·.ls)).length ∧ (ps.flatMap (·.ts)).length ≤ 4 * ps.length
  | [], _ => ⟨rfl, Nat.le_refl _⟩
  | p :: ps, h => by
    obtain ⟨h1, h2⟩ := many_len fun q hq => h q (List.mem_cons_of_mem _ hq)
    obtain ⟨a, _, b⟩ := h p (List.mem_cons_self ..)
    simp only [List.flatMap_cons, List.length_append, List.length_cons]
    omega
theorem ss_fstP {i : Nat} {n fl : Str} {f : Rho → Res D} {ns ns' : List Str} {vs vs' : List D} {d : D} {r : Rho} {N B C : Rho → Prop} {R : D → Prop} {E : Rho → Str → List Str → List D → Prop} (hf : Rs (f r) (fun x => x = d) (E r)) (h1 : r[i]? = some (some (.obj n ns vs))) (hn : ns.length < 1000) (hp : putN fl d ns vs = (ns', vs')) (h : N (r.set i (some (.obj n ns' vs')))) : Ss (fstF i n fl f r) N R B C E :=
  ss_fst (ns := ns) (vs := vs) (hf.impE (fun x e => by subst e; refine ⟨h1, hn, ?_⟩; rw [hp]; exact h) fun _ _ _ z => z)
theorem points_eq {ps : List Pt} (hp : ∀ p ∈ ps, PtOk p) (hl : ps.length ≤ 14) : F_Points_init [.lst (ps.map ptD)] = .ok (ptsD (ps.flatMap (·.ts)) (ps.flatMap (·.ls)) (endsOf 0 ps)) := Rs.eq (by
  refine rs_runI ?_
  unfold Fb_Points_init
  show Ss (seqF _ _ [some (.obj "Points" [] []), some (.lst (ps.map ptD)), none, none, none, none, none, none, none]) _ _ _ _ _
  refine ss_seq (ss_set (rs_lst (rs_nil ⟨Nat.zero_le _, ?_⟩)))
  refine ss_seq (ss_set (rs_lst (rs_nil ⟨Nat.zero_le _, ?_⟩)))
  refine ss_seq (ss_set (rs_disp (rs_pcons (rs_c (rs_c (rs_pcons (rs_c (rs_c (rs_pcons (rs_c (rs_c (rs_pcons (rs_c (rs_c (rs_pnil ?_)))))))))))))))
  refine rs_ok (?_ : _)
  show Ss (seqF _ _ [some (.obj "Points" [] []), some (.lst (ps.map ptD)), some (.lst []), some (.lst []), some (dkT (lnkT [])), none, none, none, none]) _ _ _ _ _
  refine ss_seq (ss_set (rs_c ?_))
  refine ss_seq (ss_each ptD ps (fun i r => ∃ x6 x7 x8, r = [some (.obj "Points" [] []), some (.lst (ps.map ptD)), some (.lst (bitsD 0 ((ps.take i).flatMap (·.ts)))), some (iL ((endsOf 0 (ps.take i)).map fun (e : Nat) => ((2 ^ (e - 1) : Nat) : Int))), some (dkT (lnkT ((ps.take i).flatMap (·.ls)))), some (.int ((2 ^ ((ps.take i).flatMap (·.ts)).length : Nat) : Int)), x6, x7, x8]) (rs_var rfl rfl) ⟨none, none, none, rfl⟩ ?_ ?_)
  · rintro i p r hip ⟨x6, x7, x8, rfl⟩
    have hi := (List.getElem?_eq_some_iff.mp hip).1
    have okp := hp p (List.mem_of_getElem? hip)
    have okt : ∀ q ∈ ps.take i, PtOk q := fun q hq => hp q (List.mem_of_mem_take hq)
    obtain ⟨m1, m2⟩ := many_len okt
    have hlen : (ps.take i).length = i := by rw [List.length_take]; omega
    rw [take_snoc hip]
    generalize hA : (ps.take i).flatMap (·.ts) = ts at *
    generalize hB : (ps.take i).flatMap (·.ls) = ls at *
    show Ss (Lp_Points_init_2 [some (.obj "Points" [] []), some (.lst (ps.map ptD)), some (.lst (bitsD 0 ts)), some (iL ((endsOf 0 (ps.take i)).map fun (e : Nat) => ((2 ^ (e - 1) : Nat) : Int))), some (dkT (lnkT ls)), some (.int ((2 ^ ts.length : Nat) : Int)), some (ptD p), x7, x8]) _ _ _ _ _
    unfold Lp_Points_init_2
    have hz : pairs (p.ts.map ttD) (p.ls.map fun k => wD (lnW k)) = (p.ts.zip p.ls).map fun z => .tup [ttD z.1, wD (lnW z.2)] := by
      have : ∀ (a : List TT) (b : List Ln), pairs (a.map ttD) (b.map fun k => wD (lnW k)) = (a.zip b).map fun z => .tup [ttD z.1, wD (lnW z.2)] := by
        intro a
        induction a with
        | nil => intro b; rfl
        | cons x a ih =>
          intro b
          cases b with
          | nil => rfl
          | cons y b => rw [List.map_cons, List.map_cons, pairs, ih b]; rfl
      exact this _ _
    refine ss_seq (ss_for (fun j r => ∃ x7 x8, r = [some (.obj "Points" [] []), some (.lst (ps.map ptD)), some (.lst (bitsD 0 (ts ++ p.ts.take j))), some (iL ((endsOf 0 (ps.take i)).map fun (e : Nat) => ((2 ^ (e - 1) : Nat) : Int))), some (dkT (lnkT (ls ++ p.ls.take j))), some (.int ((2 ^ (ts.length + (p.ts.take j).length) : Nat) : Int)), some (ptD p), x7, x8]) (rs_its (rs_cons (rs_un (rs_var (d := ptD p) rfl (rs_fld (d := .tup (p.ts.map ttD)) rfl (rs_cons (rs_un (rs_var (d := ptD p) rfl (rs_fld (d := .tup (p.ls.map fun k => wD (lnW k))) rfl (rs_nil (rs_zipTT ⟨⟨x7, x8, ?_⟩, ?_, ?_⟩))))))))))))
    · simp
    · rintro j d r hd ⟨x7, x8, rfl⟩
      rw [hz, List.getElem?_map] at hd
      obtain ⟨⟨t, l⟩, htl, rfl⟩ := Option.map_eq_some_iff.mp hd
      rw [List.getElem?_zip_eq_some] at htl
      obtain ⟨ht, hl2⟩ := htl
      have hj := (List.getElem?_eq_some_iff.mp ht).1
      have e1 : (p.ts.take j).length = j := by rw [List.length_take]; omega
      have e2 : (p.ls.take j).length = j := by rw [List.length_take]; have := okp.1; omega
      have okp4 := okp.2.2
      refine ⟨_, rfl, ?_⟩
      show Ss (Lp_Points_init_1 [some (.obj "Points" [] []), some (.lst (ps.map ptD)), some (.lst (bitsD 0 (ts ++ p.ts.take j))), some (iL ((endsOf 0 (ps.take i)).map fun (e : Nat) => ((2 ^ (e - 1) : Nat) : Int))), some (dkT (lnkT (ls ++ p.ls.take j))), some (.int ((2 ^ (ts.length + (p.ts.take j).length) : Nat) : Int)), some (ptD p), some (ttD t), some (wD (lnW l))]) _ _ _ _ _
      unfold Lp_Points_init_1
      rw [take_snoc ht, take_snoc hl2, ← List.append_assoc, ← List.append_assoc]
      have eL : (ts ++ p.ts.take j).length = (ls ++ p.ls.take j).length := by rw [List.length_append, List.length_append, e1, e2, m1]
      refine ss_seq (ss_app (ds := bitsD 0 (ts ++ p.ts.take j)) rfl (rs_tup (rs_cons (rs_var (d := ttD t) rfl (rs_cons (rs_var rfl (rs_nil ⟨Nat.le_of_ble_eq_true rfl, Nat.lt_of_lt_of_le (show _ < 100000 by rw [bitsD_len, List.length_append, e1]; omega) sz5, ?_⟩)))))))
      refine ss_seq (ss_putTk (T := lnkT (ls ++ p.ls.take j)) (lnk_nd _) rfl (rs_op (rs_op (rs_var (d := dkT (lnkT (ls ++ p.ls.take j))) rfl (rs_var (d := wD (lnW l)) rfl (rs_getT (lnk_get _ l) (rs_var rfl (rs_add (rs_var (d := wD (lnW l)) rfl ⟨lnW l, rfl, by show 4 < 100000; decide, ?_⟩)))))))))
      refine ss_set (rs_op (rs_var rfl (rs_c (rs_mul (Or.inr (small_of (by omega) (by omega))) ?_))))
      refine ⟨some (ttD t), some (wD (lnW l)), ?_⟩
      have f1 : ((2 ^ (ts.length + (p.ts.take j).length) : Nat) : Int) = ((2 ^ (ls ++ p.ls.take j).length : Nat) : Int) := by rw [← eL, List.length_append]
      rw [bitsD_app, f1, lnk_app]
      show [_, _, some (D.lst _), _, _, some (D.int _), _, _, _] = _
      rw [← f1]
      have f2 : ((2 ^ (ts.length + (p.ts.take j).length) : Nat) : Int) * 2 = ((2 ^ (ts.length + (p.ts.take j ++ [t]).length) : Nat) : Int) := by
        rw [List.length_append, ← Nat.add_assoc, List.length_singleton, Nat.pow_succ]
        omega
      rw [f2, f1, eL, Nat.zero_add]
    · rintro r ⟨x7, x8, rfl⟩
      have hzl : (pairs (p.ts.map ttD) (p.ls.map fun k => wD (lnW k))).length = p.ts.length := by rw [hz, List.length_map, List.length_zip, okp.1, Nat.min_self]
      rw [hzl, List.take_length, okp.1, List.take_length]
      refine ss_app (ds := ((endsOf 0 (ps.take i)).map fun (e : Nat) => ((2 ^ (e - 1) : Nat) : Int)).map D.int) rfl (rs_op (rs_var rfl (rs_c (rs_fdiv (by omega) ?_))))
      refine ⟨Nat.lt_of_lt_of_le (show _ < 100000 by rw [List.length_map, List.length_map, endsOf_len]; omega) sz5, some (ptD p), x7, x8, ?_⟩
      rw [endsOf_app, List.flatMap_append, List.flatMap_append, hA, hB, List.map_append]
      have e3 : ((2 ^ (ts.length + p.ts.length) : Nat) : Int) / 2 = ((2 ^ (0 + (ts ++ [p].flatMap (·.ts)).length - 1) : Nat) : Int) := by
        have e4 : [p].flatMap (·.ts) = p.ts := by simp
        rw [e4, List.length_append, Nat.zero_add]
        obtain ⟨m, hm⟩ : ∃ m, ts.length + p.ts.length = m + 1 := ⟨ts.length + p.ts.length - 1, by have := okp.2.1; omega⟩
        rw [hm, Nat.pow_succ, Nat.add_sub_cancel]
        omega
      have e5 : [p].flatMap (·.ts) = p.ts := by simp
      have e6 : [p].flatMap (·.ls) = p.ls := by simp
      rw [okp.1] at e3
      rw [e3, e5, e6, List.length_append, okp.1]
      show [_, _, _, some (D.lst _), _, _, _, _, _] = [_, _, _, some (D.lst _), _, _, _, _, _]
      rw [List.map_append]
      rfl
  · rintro r ⟨x6, x7, x8, rfl⟩
    rw [List.take_length]
    refine ss_seq (ss_fstP (ns := []) (vs := []) (ns' := ["tests"]) (vs' := [_]) (rs_var rfl rfl) rfl (by decide) rfl ?_)
    refine ss_seq (ss_fstP (ns := ["tests"]) (vs := [_]) (ns' := ["tests", "linked"]) (vs' := [_, _]) (rs_var rfl rfl) rfl (by decide) (by rfl) ?_)
    refine ss_fstP (ns := ["tests", "linked"]) (vs := [_, _]) (ns' := ["tests", "linked", "ends"]) (vs' := [_, _, _]) (rs_var rfl rfl) rfl (by decide) (by rfl) ?_
    exact ⟨_, rfl, rfl⟩)
end
section
structure Cd {α : Type} [DecidableEq α] (P : α → Prop) (f : α → D) (n : Nat) (py : α → PyData) : Prop where
  e : ∀ a, P a → toPy (f a) = some (py a)
  l : ∀ a, P a → PyData.canLay0 (py a) = true ∧ PyData.depth (py a) ≤ n
  q : ∀ a b, P a → P b → PyData.eqv (py a) (py b) = decide (a = b)
theorem beq_dec {α : Type} [DecidableEq α] (a b : α) : (a == b) = decide (a = b) := rfl
theorem cd_int : Cd (fun _ => True) D.int 0 PyData.int := ⟨fun _ _ => by simp [toPy], fun _ _ => by simp [PyData.canLay0, PyData.depth], fun a b _ _ => by simp [PyData.eqv, beq_dec]⟩
section
variable {α β γ δ ε : Type} [DecidableEq α] [DecidableEq β] [DecidableEq γ] [DecidableEq δ] [DecidableEq ε] {P : α → Prop} {R : β → Prop} {T : γ → Prop} {U : δ → Prop} {f : α → D} {g : β → D} {h : γ → D} {k : δ → D} {n : Nat} {py : α → PyData} {pz : β → PyData} {pw : γ → PyData} {px : δ → PyData}
theorem Cd.all (c : Cd P f n py) : ∀ xs : List α, (∀ x ∈ xs, P x) → toPyL (xs.map f) = some (xs.map py) ∧ PyData.canLayAll0 (xs.map py) = true ∧ PyData.depthAll (xs.map py) ≤ n
  | [], _ => ⟨by simp [toPyL], by simp [PyData.canLayAll0], by simp [PyData.depthAll]⟩
  | x :: xs, hx => by
    obtain ⟨h1, h2, h3⟩ := c.all xs fun y hy => hx y (List.mem_cons_of_mem _ hy)
    have hp := hx x List.mem_cons_self
    refine ⟨by rw [List.map_cons, toPyL, h1, c.e x hp]; rfl, ?_, ?_⟩
    · rw [List.map_cons, PyData.canLayAll0, h2, (c.l x hp).1]; rfl
    · rw [List.map_cons, PyData.depthAll]
      exact Nat.max_le.mpr ⟨(c.l x hp).2, h3⟩
theorem Cd.eqa (c : Cd P f n py) : ∀ xs ys : List α, (∀ x ∈ xs, P x) → (∀ x ∈ ys, P x) → PyData.eqvAll (xs.map py) (ys.map py) = decide (xs = ys)
  | [], [], _, _ => by simp [PyData.eqvAll]
  | [], _ :: _, _, _ => by simp [PyData.eqvAll]
  | _ :: _, [], _, _ => by simp [PyData.eqvAll]
  | x :: xs, y :: ys, hx, hy => by
    rw [List.map_cons, List.map_cons, PyData.eqvAll, c.q x y (hx x List.mem_cons_self) (hy y List.mem_cons_self), c.eqa xs ys (fun z hz => hx z (List.mem_cons_of_mem _ hz)) fun z hz => hy z (List.mem_cons_of_mem _ hz)]
    by_cases h1 : x = y <;> by_cases h2 : xs = ys <;> simp [h1, h2]
theorem cd_tup (c : Cd P f n py) : Cd (fun xs : List α => ∀ x ∈ xs, P x) (fun xs => D.tup (xs.map f)) (n + 1) (fun xs => PyData.tuple (xs.map py)) := ⟨fun xs hx => by rw [toPy, (c.all xs hx).1]; rfl,
  fun xs hx => ⟨by rw [PyData.canLay0]; exact (c.all xs hx).2.1, by rw [PyData.depth]; exact Nat.succ_le_succ (c.all xs hx).2.2⟩, fun xs ys hx hy => by rw [PyData.eqv, c.eqa xs ys hx hy]⟩
theorem eq_cd (c : Cd P f n py) (hn : n ≤ 64) {a b : α} (ha : P a) (hb : P b) (hf : eqFlat (f a) (f b) = none) : eqB (f a) (f b) = .ok (decide (a = b)) := by
  have sh : ∀ a, P a → SeqAt.shaped (py a) = true := fun a ha => by
    obtain ⟨h1, h2⟩ := c.l a ha
    unfold SeqAt.shaped
    rw [h1, decide_eq_true (by omega)]
    rfl
  unfold eqB
  rw [hf]
  dsimp only
  unfold eqDeep
  rw [c.e a ha, c.e b hb]
  dsimp only
  rw [if_pos ⟨sh a ha, sh b hb⟩, c.q a b ha hb]
theorem rs_eqC {Q : D → Prop} {E : Str → List Str → List D → Prop} (c : Cd P f n py) (hn : n ≤ 64) {a b : α} (ha : P a) (hb : P b) (hf : eqFlat (f a) (f b) = none) (q : Q (.bl (decide (a = b)))) : Rs (eqD (f a) (f b)) Q E := by
  unfold eqD
  rw [eq_cd c hn ha hb hf]
  exact q
theorem rs_neC {Q : D → Prop} {E : Str → List Str → List D → Prop} (c : Cd P f n py) (hn : n ≤ 64) {a b : α} (ha : P a) (hb : P b) (hf : eqFlat (f a) (f b) = none) (q : Q (.bl (!decide (a = b)))) : Rs (neD (f a) (f b)) Q E := by
  unfold neD
  rw [eq_cd c hn ha hb hf]
  exact q
end
end
section
abbrev Pl := List Int
def pl (p : Pl) : D := .tup (p.map D.int)
def atT : Tr → Pl → Option Tr
  | t, [] => some t
  | .tx _, _ :: _ => none
  | .el _ _ ks, i :: p => if 0 ≤ i then (match ks[i.toNat]? with
    | some u => atT u p
    | none => none) else none
theorem atT_app : ∀ (p : Pl) (t : Tr) (q : Pl), atT t (p ++ q) = (atT t p).bind fun u => atT u q
  | [], t, q => by simp [atT]
  | i :: p, .tx _, q => by simp [atT]
  | i :: p, .el k m ks, q => by
    rw [List.cons_append, atT, atT]
    by_cases h : 0 ≤ i
    · rw [if_pos h, if_pos h]
      cases ks[i.toNat]? with
      | none => rfl
      | some u => exact atT_app p u q
    · rw [if_neg h, if_neg h]; rfl
def stepT : Tr → Int → Option Tr
  | .tx _, _ => none
  | .el _ _ ks, i => if 0 ≤ i then ks[i.toNat]? else none
theorem stepT_el (k m : List Nat) (ks : List Tr) (i : Int) : stepT (.el k m ks) i = if 0 ≤ i then ks[i.toNat]? else none := rfl
theorem atT_one (t : Tr) (i : Int) : atT t [i] = stepT t i := by
  cases t with
  | tx l => rfl
  | el k m ks =>
    rw [atT, stepT]
    by_cases h : 0 ≤ i
    · rw [if_pos h, if_pos h]
      cases ks[i.toNat]? with
      | none => rfl
      | some u => simp [atT]
    · rw [if_neg h, if_neg h]
theorem atT_snoc (t : Tr) (p : Pl) (i : Int) : atT t (p ++ [i]) = (atT t p).bind fun u => stepT u i := by
  rw [atT_app]
  congr 1
  funext u
  exact atT_one u i
def NoP (p : Pl) (n : Str) (ns : List Str) (vs : List D) : Prop := n = ("NoPlace" : Str) ∧ ns = [("place" : Str)] ∧ vs = [pl p]
theorem node_sp (t : Tr) (p : Pl) : Rs (F_node_at [tD t, pl p]) (fun d => ∃ u, atT t p = some u ∧ d = tD u) (fun n ns vs => atT t p = none ∧ NoP p n ns vs) := by
  refine rs_run ?_
  unfold Fb_node_at
  show Ss (seqF _ _ [some (tD t), some (pl p), none, none]) _ _ _ _ _
  refine ss_seq (ss_set (rs_var rfl ?_))
  refine ss_seq (ss_for (fun i r => i ≤ p.length ∧ ∃ u x, atT t (p.take i) = some u ∧ r = [some (tD t), some (pl p), some (tD u), x]) (rs_it (rs_var rfl ?_)))
  show Rs (.ok (p.map D.int)) _ _
  refine ⟨⟨by omega, t, none, by rw [List.take_zero]; simp [atT], rfl⟩, ?_, ?_⟩
  · rintro i d r hd ⟨_, u, x, hu, rfl⟩
    rw [List.getElem?_map] at hd
    cases hi : p[i]? with
    | none => rw [hi] at hd; cases hd
    | some j =>
      rw [hi] at hd; cases hd
      have hil := (List.getElem?_eq_some_iff.mp hi).1
      have hst : atT t (p.take (i + 1)) = stepT u j := by rw [take_snoc hi, atT_snoc, hu]; rfl
      have hno : stepT u j = none → atT t p = none := fun h => by
        have : p = p.take (i + 1) ++ p.drop (i + 1) := (List.take_append_drop _ _).symm
        rw [this, atT_app, hst, h]; rfl
      refine ⟨[some (tD t), some (pl p), some (tD u), some (.int j)], rfl, ?_⟩
      unfold Lp_node_at_1
      have rai : stepT u j = none → ∀ (r : Rho) (N B C : Rho → Prop) (R : D → Prop), r[1]? = some (some (pl p)) → Ss (raiF ("NoPlace" : Str) [("place" : Str)] false (dCons (dVar 1) dNil) r) N R B C (fun _ n ns vs => atT t p = none ∧ NoP p n ns vs) := fun h r N B C R hr =>
        ss_raise (rs_cons (rs_var hr (rs_nil ⟨rfl, hno h, rfl, rfl, rfl⟩)))
      refine ss_seq (ss_ifo ?_)
      cases u with
      | tx l =>
        rw [tD_tx]
        array_get_dec
        exact ⟨fun _ => rai rfl _ _ _ _ _ rfl, fun z => (by cases z)⟩
      | el k m ks =>
        rw [tD_el]
        array_get_dec
        refine ⟨fun z => (by cases z), fun _ => ?_⟩
        array_get_dec
        rw [List.length_map]
        refine ⟨fun h => ?_, fun h => ?_⟩
        · refine rai ?_ _ _ _ _ _ rfl
          rw [stepT_el]
          by_cases h0 : 0 ≤ j
          · rw [if_pos h0]
            refine List.getElem?_eq_none ?_
            simp [h0] at h
            omega
          · rw [if_neg h0]
        · have h0 : 0 ≤ j ∧ j.toNat < ks.length := by simp at h; omega
          obtain ⟨uu, hks⟩ : ∃ uu, ks[j.toNat]? = some uu := ⟨_, List.getElem?_eq_getElem h0.2⟩
          have hat : atI (ks.map tD) j = some (tD uu) := by
            have e : ((j.toNat : Nat) : Int) = j := by omega
            rw [← e]
            exact atI_nat (by rw [List.getElem?_map, hks]; rfl)
          refine ss_nx (ss_set (rs_op (rs_op (rs_var rfl (rs_c ?_)))))
          refine rs_ixT (d := .tup (ks.map tD)) (atI_nat (j := 2) rfl) (rs_var rfl ?_)
          refine rs_ixT (d := tD uu) hat ⟨by omega, uu, some (.int j), by rw [hst, stepT_el, if_pos h0.1, hks], rfl⟩
  · rintro r ⟨_, u, x, hu, rfl⟩
    rw [List.length_map, List.take_length] at hu
    exact ss_ret (rs_var rfl ⟨u, hu, rfl⟩)
/-- the last element ahead of i -/
def lastE : List Tr → Nat → Option Nat
  | _, 0 => none
  | ks, i + 1 => match ks[i]? with
    | some (.el _ _ _) => some i
    | _ => lastE ks i
theorem rs_rng3 {i j : Int} {Q : List D → Prop} {E : Str → List Str → List D → Prop} (h : -4611686018427387904 ≤ i ∧ i < 4611686018427387904 ∧ -4611686018427387904 ≤ j ∧ j < 4611686018427387904) (q : Q (rngDn i (i - j).toNat)) : Rs (rng3 [.int i, .int j, .int (-1)]) Q E := rs_guard h q
theorem rs_eqPl {p q : Pl} {Q : D → Prop} {E : Str → List Str → List D → Prop} (h : Q (.bl (decide (p = q)))) : Rs (eqD (pl p) (pl q)) Q E :=
  rs_eqC (cd_tup cd_int) (by decide) (fun _ _ => trivial) (fun _ _ => trivial) rfl h
theorem cut_init {α : Type} (q : List α) (x : α) : cutL (q ++ [x]) none (some (-1)) = q := by
  rw [show (-1 : Int) = -((1 : Nat) : Int) from rfl, cut_back _ 1 (by omega), List.length_append]
  simp
def psB (t : TT) (k m : List Nat) : Bool := decide (t.1 = [42] ∨ t.1 = k) && decide (t.2 = [] ∨ t.2 = m)
def psAt (ts : List TT) (k m : List Nat) : Nat → Bool := fun i => match ts[i]? with
  | some t => psB t k m
  | none => false
theorem rs_in2 {a b c : List Nat} {Q : D → Prop} {E : Str → List Str → List D → Prop} (q : Q (.bl (decide (b = a ∨ c = a)))) : Rs (inD (.str (Sg a)) (.tup [.str (Sg b), .str (Sg c)])) Q E := by
  have e : inV (V.str (Sg a)) [V.str (Sg b), V.str (Sg c)] = decide (b = a ∨ c = a) := by
    unfold inV
    have s : ∀ x y : List Nat, eqV (V.str (Sg x)) (V.str (Sg y)) = decide (x = y) := fun x y => by
      by_cases h : x = y
      · subst h; simp [eqV]
      · simp [eqV, h]
    rw [List.any_cons, List.any_cons, List.any_nil, s, s]
    by_cases h1 : b = a <;> by_cases h2 : c = a <;> simp [h1, h2]
  show Rs (Res.ok (.bl (inV (V.str (Sg a)) [V.str (Sg b), V.str (Sg c)]))) Q E
  rw [e]
  exact q
theorem passed_eq {ts : List TT} {ls : List Ln} {es : List Nat} {k m : List Nat} (hl : ts.length ≤ 60) : F_Points_passed [ptsD ts ls es, wD k, wD m] = .ok (.int (encN ts.length (psAt ts k m) : Nat)) := Rs.eq (by
  refine rs_run ?_
  unfold Fb_Points_passed
  show Ss (seqF _ _ [some (ptsD ts ls es), some (wD k), some (wD m), none, none, none]) _ _ _ _ _
  refine ss_seq (ss_set (rs_c ?_))
  refine ss_seq (ss_for (fun i r => ∃ x4 x5, r = [some (ptsD ts ls es), some (wD k), some (wD m), some (.int (encN i (psAt ts k m) : Nat)), x4, x5]) (rs_it (rs_un (rs_var (d := ptsD ts ls es) rfl (rs_fld (d := .lst (bitsD 0 ts)) rfl (rs_itsL ⟨⟨none, none, rfl⟩, ?_, ?_⟩))))))
  · rintro i d r hd ⟨x4, x5, rfl⟩
    obtain ⟨t, ht, rfl⟩ := bitsD_get ts 0 i d hd
    rw [Nat.zero_add]
    refine ⟨_, rfl, ?_⟩
    show Ss (Lp_Points_passed_1 [some (ptsD ts ls es), some (wD k), some (wD m), some (.int (encN i (psAt ts k m) : Nat)), some (ttD t), some (.int ((2 ^ i : Nat) : Int))]) _ _ _ _ _
    unfold Lp_Points_passed_1
    refine ss_if (rs_and (rs_T (rs_op (rs_op (rs_var (d := ttD t) rfl (rs_c (rs_ixT (d := wD t.1) (atI_nat (j := 0) rfl) (rs_tup (rs_cons (rs_c (rs_cons (rs_var (d := wD k) rfl (rs_nil ⟨Nat.le_of_ble_eq_true rfl, rs_in2 (rs_asB ?_)⟩)))))))))))))
    refine rs_T (rs_op (rs_op (rs_var (d := ttD t) rfl (rs_c (rs_ixT (d := wD t.2) (atI_nat (j := 1) rfl) (rs_tup (rs_cons (rs_c (rs_cons (rs_var (d := wD m) rfl (rs_nil ⟨Nat.le_of_ble_eq_true rfl, rs_in2 (rs_asB ?_)⟩)))))))))))
    have e : (decide ([42] = t.1 ∨ k = t.1) && decide ([] = t.2 ∨ m = t.2)) = psAt ts k m i := by
      unfold psAt psB
      rw [ht]
      congr 1
      · exact decide_eq_decide.mpr ⟨Or.imp Eq.symm Eq.symm, Or.imp Eq.symm Eq.symm⟩
      · exact decide_eq_decide.mpr ⟨Or.imp Eq.symm Eq.symm, Or.imp Eq.symm Eq.symm⟩
    rw [e]
    refine ⟨fun h => ?_, fun h => ?_⟩
    · refine ss_set (rs_op (rs_var rfl (rs_var rfl (rs_add ⟨some (ttD t), some (.int ((2 ^ i : Nat) : Int)), ?_⟩))))
      rw [encN, if_pos h, Int.natCast_add]
      rfl
    · refine ss_nx ⟨some (ttD t), some (.int ((2 ^ i : Nat) : Int)), ?_⟩
      rw [encN, if_neg (by rw [h]; decide)]
      rfl
  · rintro r ⟨x4, x5, rfl⟩
    rw [bitsD_len]
    exact ss_ret (rs_var rfl rfl))
/-- the bits at an element: what its tests, those of its ancestors, its parent and its elder sibling give -/
def hereB (ls : List Ln) (p a o e : Nat → Bool) : Nat → Bool := fun i => p i && (lkB ls .st i || (lkB ls .an i && a (i - 1)) || (lkB ls .pa i && o (i - 1)) || (lkB ls .el i && e (i - 1)))
theorem here_bits {ls : List Ln} {n : Nat} (hn : n = ls.length) (p a o e : Nat → Bool) (h0 : 0 < n → ls[0]? = some .st) :
    ((((encN n (lkB ls .st) ||| (encN n a * 2 &&& encN n (lkB ls .an))) ||| (encN n o * 2 &&& encN n (lkB ls .pa))) ||| (encN n e * 2 &&& encN n (lkB ls .el))) &&& encN n p) = encN n (hereB ls p a o e) := enc_ext fun i => by
  simp only [Nat.testBit_and, Nat.testBit_or, encN_bit, dbl_bit]
  by_cases hi : i < n
  · unfold hereB
    cases i with
    | zero =>
      have := h0 hi
      simp [lkB, this, hi]
    | succ i =>
      have h2 : i < n := by omega
      simp [hi, h2]
      cases p (i + 1) <;> simp
      cases lkB ls .st (i + 1) <;> cases lkB ls .an (i + 1) <;> cases lkB ls .pa (i + 1) <;> cases lkB ls .el (i + 1) <;> cases a i <;> cases o i <;> cases e i <;> rfl
  · simp [hi]
theorem here_eq {ts : List TT} {ls : List Ln} {es : List Nat} {n : Nat} (hn : n = ls.length) (h0 : 0 < n → ls[0]? = some .st) (p a o e : Nat → Bool) :
    F_Points_here [ptsD ts ls es, .int (encN n p : Nat), .int (encN n a : Nat), .int (encN n o : Nat), .int (encN n e : Nat)] = .ok (.int (encN n (hereB ls p a o e) : Nat)) := Rs.eq (by
  have lkd : lookF ["tests", "linked", "ends"] [D.lst (bitsD 0 ts), dkT (lnkT ls), iL (es.map fun (e : Nat) => ((2 ^ (e - 1) : Nat) : Int))] "linked" = some (dkT (lnkT ls)) := rfl
  have gt : ∀ (k : Ln) {Q : D → Prop} {E : Str → List Str → List D → Prop}, Q (.int (encN n (lkB ls k) : Nat)) → Rs (getZ (dkT (lnkT ls)) (wD (lnW k))) Q E := fun k {Q E} q => rs_getT (lnk_get ls k) (by rw [← hn]; exact q)
  refine rs_run ?_
  unfold Fb_Points_here
  show Ss (seqF _ _ [some (ptsD ts ls es), some (.int (encN n p : Nat)), some (.int (encN n a : Nat)), some (.int (encN n o : Nat)), some (.int (encN n e : Nat)), none]) _ _ _ _ _
  refine ss_seq (ss_set (rs_op (rs_un (rs_var (d := ptsD ts ls es) rfl (rs_fld lkd (rs_c (gt .st ?_)))))))
  refine ss_seq (ss_set (rs_op (rs_var rfl (rs_op (rs_op (rs_var rfl (rs_c (rs_mul (Or.inr (small_of (by omega) (by omega))) (rs_op (rs_un (rs_var (d := ptsD ts ls es) rfl (rs_fld lkd (rs_c (gt .an (rs_ints (rs_ints ?_))))))))))))))))
  refine ss_seq (ss_set (rs_op (rs_var rfl (rs_op (rs_op (rs_var rfl (rs_c (rs_mul (Or.inr (small_of (by omega) (by omega))) (rs_op (rs_un (rs_var (d := ptsD ts ls es) rfl (rs_fld lkd (rs_c (gt .pa (rs_ints (rs_ints ?_))))))))))))))))
  refine ss_seq (ss_set (rs_op (rs_var rfl (rs_op (rs_op (rs_var rfl (rs_c (rs_mul (Or.inr (small_of (by omega) (by omega))) (rs_op (rs_un (rs_var (d := ptsD ts ls es) rfl (rs_fld lkd (rs_c (gt .el (rs_ints (rs_ints ?_))))))))))))))))
  refine ss_ret (rs_op (rs_var rfl (rs_var rfl (rs_ints ?_))))
  have m2 : ∀ x : Nat, (x : Int) * 2 = ((x * 2 : Nat) : Int) := fun x => by omega
  rw [m2, m2, m2, band, bor, band, bor, band, bor, band, here_bits hn p a o e h0])
end
section
theorem at_len : ∀ (p : Pl) (t u : Tr), atT t p = some u → p.length + sz u ≤ sz t
  | [], t, u, h => by
    simp [atT] at h
    subst h
    simp
  | i :: p, .tx _, u, h => by simp [atT] at h
  | i :: p, .el k m ks, u, h => by
    rw [atT] at h
    by_cases h0 : 0 ≤ i
    · rw [if_pos h0] at h
      cases hk : ks[i.toNat]? with
      | none => rw [hk] at h; cases h
      | some v =>
        rw [hk] at h
        have ih := at_len p v u h
        have hv : sz v ≤ szs ks := by
          rw [szs_sum]
          exact le_sum _ _ (List.mem_map.mpr ⟨v, List.mem_of_getElem? hk, rfl⟩)
        rw [sz_el, List.length_cons]
        omega
    · rw [if_neg h0] at h; cases h
def passB (T : Tr) (ts : List TT) (i : Nat) (p : Pl) : Bool := match atT T p with
  | some (.el k m _) => psAt ts k m i
  | _ => false
def eldP (T : Tr) (p : Pl) : Option Pl := if p = [] then none else match atT T p.dropLast with
  | some (.el _ _ ks) => (lastE ks (p.getLastD 0).toNat).map fun (j : Nat) => p.dropLast ++ [(j : Int)]
  | _ => none
theorem eldP_snoc {T : Tr} {q : Pl} {c : Nat} {k m : List Nat} {ks : List Tr} (h : atT T q = some (.el k m ks)) : eldP T (q ++ [(c : Int)]) = (lastE ks c).map fun (j : Nat) => q ++ [(j : Int)] := by
  unfold eldP
  rw [if_neg (by simp), List.dropLast_concat, h]
  simp
def fit (T : Tr) (ts : List TT) (ls : List Ln) : Nat → Pl → Bool
  | 0, p => passB T ts 0 p && lkB ls .st 0
  | i + 1, p => passB T ts (i + 1) p && (lkB ls .st (i + 1) || (lkB ls .an (i + 1) && (List.range p.length).any fun j => fit T ts ls i (p.take j)) || (lkB ls .pa (i + 1) && (!decide (p = []) && fit T ts ls i p.dropLast)) || (lkB ls .el (i + 1) && (match eldP T p with
    | some e => fit T ts ls i e
    | none => false)))
section
variable {T : Tr} {ts : List TT} {ls : List Ln}
def abB (T : Tr) (ts : List TT) (ls : List Ln) (p : Pl) : Nat → Bool := fun i => (List.range p.length).any fun j => fit T ts ls i (p.take j)
def elB (T : Tr) (ts : List TT) (ls : List Ln) (o : Option Pl) : Nat → Bool := fun i => match o with
  | some e => fit T ts ls i e
  | none => false
theorem fit_here (h0 : ls[0]? = some .st) (p : Pl) (i : Nat) : fit T ts ls i p = hereB ls (fun i => passB T ts i p) (abB T ts ls p) (fun i => !decide (p = []) && fit T ts ls i p.dropLast) (elB T ts ls (eldP T p)) i := by
  cases i with
  | zero =>
    unfold hereB
    have a : ∀ k, k ≠ .st → lkB ls k 0 = false := fun k hk => by unfold lkB; rw [h0]; exact decide_eq_false fun z => hk (Option.some.inj z).symm
    rw [a .an (by decide), a .pa (by decide), a .el (by decide)]
    simp [fit]
  | succ i => rfl
theorem ab_snoc (q : Pl) (x : Int) (i : Nat) : abB T ts ls (q ++ [x]) i = (abB T ts ls q i || fit T ts ls i q) := by
  unfold abB
  rw [List.length_append, List.length_singleton, List.range_succ, List.any_append]
  congr 1
  · rw [Bool.eq_iff_iff, List.any_eq_true, List.any_eq_true]
    constructor
    · rintro ⟨j, hj, h⟩
      have := List.mem_range.mp hj
      rw [List.take_append_of_le_length (by omega)] at h
      exact ⟨j, hj, h⟩
    · rintro ⟨j, hj, h⟩
      have := List.mem_range.mp hj
      refine ⟨j, hj, ?_⟩
      rw [List.take_append_of_le_length (by omega)]
      exact h
  · simp
theorem fit_kid (h0 : ls[0]? = some .st) {q : Pl} {c : Nat} {k m k2 m2 : List Nat} {ks ks2 : List Tr} (h : atT T q = some (.el k m ks)) (hc : ks[c]? = some (.el k2 m2 ks2)) (y : Int) (i : Nat) :
    fit T ts ls i (q ++ [(c : Int)]) = hereB ls (psAt ts k2 m2) (abB T ts ls (q ++ [y])) (fun i => fit T ts ls i q) (elB T ts ls ((lastE ks c).map fun (j : Nat) => q ++ [(j : Int)])) i := by
  rw [fit_here h0, eldP_snoc h]
  have e1 : (fun i => passB T ts i (q ++ [(c : Int)])) = psAt ts k2 m2 := by
    funext i
    unfold passB
    rw [atT_snoc, h]
    show (match stepT (.el k m ks) (c : Int) with | some (.el k m _) => psAt ts k m i | _ => false) = _
    rw [stepT_el, if_pos (by omega), Int.toNat_natCast, hc]
  have e2 : abB T ts ls (q ++ [(c : Int)]) = abB T ts ls (q ++ [y]) := by funext i; rw [ab_snoc, ab_snoc]
  have e3 : (fun i => !decide (q ++ [(c : Int)] = []) && fit T ts ls i (q ++ [(c : Int)]).dropLast) = fun i => fit T ts ls i q := by
    funext i
    rw [List.dropLast_concat]
    simp
  rw [e1, e2, e3]
end
theorem bor_enc {n : Nat} {a b : Nat → Bool} : encN n a ||| encN n b = encN n fun i => a i || b i := enc_ext fun i => by
  rw [Nat.testBit_or, encN_bit, encN_bit]
  cases decide (i < n) <;> rfl
theorem bits_ok {T : Tr} {ts : List TT} {ls : List Ln} {es : List Nat} {p : Pl} {K M : List Nat} {KS : List Tr} (hl : ts.length ≤ 60) (hlen : ts.length = ls.length) (h0 : ls[0]? = some .st) (hp : atT T p = some (.el K M KS)) :
    F_Points_bits_at [ptsD ts ls es, tD T, pl p] = .ok (.int (encN ts.length (fun i => fit T ts ls i p) : Nat)) := Rs.eq (by
  have here : ∀ {p a o e : Nat → Bool} {q : Nat → Bool} {Q : D → Prop} {E : Str → List Str → List D → Prop}, (∀ i, i < ts.length → hereB ls p a o e i = q i) → Q (.int (encN ts.length q : Nat)) →
      Rs (F_Points_here [ptsD ts ls es, .int (encN ts.length p : Nat), .int (encN ts.length a : Nat), .int (encN ts.length o : Nat), .int (encN ts.length e : Nat)]) Q E := fun {p a o e q Q E} h hq => Rs.of (here_eq hlen (fun _ => h0) p a o e) (by rw [encN_eq h]; exact hq)
  have selfm : ∀ {m : Str} {Q : Unit → Prop} {E : Str → List Str → List D → Prop}, m ∉ (["tests", "linked", "ends"] : List Str) → Q () → Rs (isObj "Points" m (ptsD ts ls es)) Q E := fun h q => rs_isObj h q
  obtain ⟨k0, m0, ks0, hT⟩ : ∃ k m ks, T = .el k m ks := by
    cases T with
    | el k m ks => exact ⟨_, _, _, rfl⟩
    | tx l => cases p with
      | nil => simp [atT] at hp
      | cons x p => simp [atT] at hp
  have e00 : encN ts.length (fun _ => false) = 0 := enc_zero _
  refine rs_run ?_
  unfold Fb_Points_bits_at
  show Ss (seqF _ _ [some (ptsD ts ls es), some (tD T), some (pl p), none, none, none, none, none, none]) _ _ _ _ _
  refine ss_seq (ss_if (rs_T (rs_un (rs_call (rs_cons (rs_var (d := tD T) rfl (rs_cons (rs_var (d := pl p) rfl (rs_nil ((node_sp T p).impE ?_ ?_))))))))))
  rotate_left
  · rintro n ns vs ⟨z, _⟩
    rw [hp] at z; cases z
  rintro _ ⟨u, hu, rfl⟩
  rw [hp] at hu
  cases hu
  rw [tD_el]
  refine rs_isi_tup_str (rs_asB ⟨fun z => (by cases z), fun _ => ss_nx ?_⟩)
  refine ss_seq (ss_par (rs_var (d := tD T) rfl (rs_c ?_)))
  have hTd : tD T = .tup [wD k0, wD m0, .tup (ks0.map tD)] := by rw [hT, tD_el]
  show Ss (seqF _ _ [some (ptsD ts ls es), some (tD T), some (pl p), some (tD T), some (.int 0), none, none, none, none]) _ _ _ _ _
  refine ss_seq (ss_set (rs_meth (rs_var (d := ptsD ts ls es) rfl (selfm (by decide) (rs_cons (rs_meth (rs_var (d := ptsD ts ls es) rfl (selfm (by decide) (rs_cons (rs_op (rs_var (d := .tup [wD k0, wD m0, .tup (ks0.map tD)]) (by rw [← hTd]; rfl) (rs_c (rs_ixT (d := wD k0) (atI_nat (j := 0) rfl) (rs_cons (rs_op (rs_var (d := .tup [wD k0, wD m0, .tup (ks0.map tD)]) (by rw [← hTd]; rfl) (rs_c (rs_ixT (d := wD m0) (atI_nat (j := 1) rfl) (rs_nil (Rs.of (passed_eq hl) ?_))))))))))))))))))))
  refine rs_cons (rs_c (rs_cons (rs_c (rs_cons (rs_c (rs_nil ?_))))))
  have h00 : ∀ i, i < ts.length → hereB ls (psAt ts k0 m0) (fun _ => false) (fun _ => false) (fun _ => false) i = fit T ts ls i [] := fun i _ => by
    rw [fit_here h0]
    have e1 : (fun i => passB T ts i []) = psAt ts k0 m0 := by funext i; unfold passB; rw [hT]; simp [atT]
    rw [e1]
    unfold hereB
    simp [abB, elB, eldP]
  have hz : (0 : Int) = ((encN ts.length (fun _ => false) : Nat) : Int) := by rw [e00]; rfl
  rw [hz]
  refine here h00 ?_
  rw [← hz]
  show Ss (seqF _ _ [some (ptsD ts ls es), some (tD T), some (pl p), some (tD T), some (.int 0), some (.int (encN ts.length (fun i => fit T ts ls i []) : Nat)), none, none, none]) _ _ _ _ _
  refine ss_seq (ss_for (fun j r => j ≤ p.length ∧ ∃ u k m ks x6 x7 x8, u = .el k m ks ∧ atT T (p.take j) = some u ∧ r = [some (ptsD ts ls es), some (tD T), some (pl p), some (tD u), some (.int (encN ts.length (abB T ts ls (p.take j)) : Nat)), some (.int (encN ts.length (fun i => fit T ts ls i (p.take j)) : Nat)), x6, x7, x8]) (rs_it (rs_var rfl ?_)))
  show Rs (.ok (p.map D.int)) _ _
  refine rs_ok ⟨⟨by omega, T, k0, m0, ks0, none, none, none, hT, by rw [List.take_zero]; simp [atT], ?_⟩, ?_, ?_⟩
  · rw [List.take_zero, show abB T ts ls [] = (fun _ => false) from rfl, ← hz]
  · rintro j d r hd ⟨_, u, k, m, ks, x6, x7, x8, rfl, hu, rfl⟩
    rw [List.getElem?_map] at hd
    cases hj : p[j]? with
    | none => rw [hj] at hd; cases hd
    | some x =>
      rw [hj] at hd; cases hd
      have hjl := (List.getElem?_eq_some_iff.mp hj).1
      have htk : p.take (j + 1) = p.take j ++ [x] := take_snoc hj
      have hst : atT T (p.take (j + 1)) = if 0 ≤ x then ks[x.toNat]? else none := by rw [htk, atT_snoc, hu]; rfl
      obtain ⟨v, hv⟩ : ∃ v, atT T (p.take (j + 1)) = some v := by
        cases e : atT T (p.take (j + 1)) with
        | some v => exact ⟨v, rfl⟩
        | none =>
          have : p = p.take (j + 1) ++ p.drop (j + 1) := (List.take_append_drop _ _).symm
          rw [this, atT_app, e] at hp
          cases hp
      obtain ⟨k2, m2, ks2, rfl⟩ : ∃ k m ks, v = .el k m ks := by
        have : p = p.take (j + 1) ++ p.drop (j + 1) := (List.take_append_drop _ _).symm
        rw [this, atT_app, hv] at hp
        cases v with
        | el k m ks => exact ⟨_, _, _, rfl⟩
        | tx l =>
          exfalso
          have hp : atT (.tx l) (p.drop (j + 1)) = some (.el K M KS) := hp
          cases hq : p.drop (j + 1) with
          | nil => rw [hq] at hp; simp [atT] at hp
          | cons y q => rw [hq] at hp; simp [atT] at hp
      rw [hv] at hst
      have hx0 : 0 ≤ x := by
        by_cases h : 0 ≤ x
        · exact h
        · rw [if_neg h] at hst; cases hst
      rw [if_pos hx0] at hst
      obtain ⟨c, rfl⟩ : ∃ c : Nat, x = (c : Int) := ⟨x.toNat, by omega⟩
      rw [Int.toNat_natCast] at hst
      have hst := hst.symm
      have hcl := (List.getElem?_eq_some_iff.mp hst).1
      generalize hq : p.take j = q at *
      refine ⟨_, rfl, ?_⟩
      show Ss (Lp_Points_bits_at_2 [some (ptsD ts ls es), some (tD T), some (pl p), some (tD (.el k m ks)), some (.int (encN ts.length (abB T ts ls q) : Nat)), some (.int (encN ts.length (fun i => fit T ts ls i q) : Nat)), some (.int (c : Int)), x7, x8]) _ _ _ _ _
      unfold Lp_Points_bits_at_2
      refine ss_seq (ss_par (rs_var rfl (rs_op (rs_var rfl (rs_var rfl (rs_ints ?_))))))
      have eab : encN ts.length (abB T ts ls q) ||| encN ts.length (fun i => fit T ts ls i q) = encN ts.length (abB T ts ls (q ++ [(c : Int)])) := by
        rw [bor_enc]
        exact encN_eq fun i _ => (ab_snoc q _ i).symm
      rw [bor, eab]
      refine ss_seq (ss_set (rs_c ?_))
      show Ss (seqF _ _ [some (ptsD ts ls es), some (tD T), some (pl p), some (tD (.el k m ks)), some (.int (encN ts.length (abB T ts ls (q ++ [(c : Int)])) : Nat)), some (.int 0), some (.int (c : Int)), some (.int (encN ts.length (fun i => fit T ts ls i q) : Nat)), x8]) _ _ _ _ _
      refine ss_seq (ss_for (fun b r => ∃ x8, r = [some (ptsD ts ls es), some (tD T), some (pl p), some (tD (.el k m ks)), some (.int (encN ts.length (abB T ts ls (q ++ [(c : Int)])) : Nat)), some (.int (encN ts.length (elB T ts ls ((lastE ks b).map fun (j : Nat) => q ++ [(j : Int)])) : Nat)), some (.int (c : Int)), some (.int (encN ts.length (fun i => fit T ts ls i q) : Nat)), x8]) (rs_it (rs_sl (rs_op (rs_var (d := .tup [wD k, wD m, .tup (ks.map tD)]) (by rw [← tD_el]; rfl) (rs_c (rs_ixT (d := .tup (ks.map tD)) (atI_nat (j := 2) rfl) (rs_noP (rs_part (rs_op (rs_var rfl (rs_c (rs_add (rs_asI (rs_slT ?_)))))))))))))))
      rw [show ((c : Int) + 1) = ((c + 1 : Nat) : Int) by omega, cut_take, ← List.map_take]
      refine rs_itsT ⟨⟨x8, ?_⟩, ?_, ?_⟩
      · rw [show elB T ts ls ((lastE ks 0).map fun (j : Nat) => q ++ [(j : Int)]) = (fun _ => false) from rfl, ← hz]
      · rintro b d r hd ⟨x8, rfl⟩
        rw [List.getElem?_map] at hd
        obtain ⟨w, hw, rfl⟩ := Option.map_eq_some_iff.mp hd
        have hb1 : b < c + 1 := by
          have := (List.getElem?_eq_some_iff.mp hw).1
          rw [List.length_take] at this
          omega
        have hw : ks[b]? = some w := by rw [List.getElem?_take_of_lt hb1] at hw; exact hw
        refine ⟨_, rfl, ?_⟩
        show Ss (Lp_Points_bits_at_1 [some (ptsD ts ls es), some (tD T), some (pl p), some (tD (.el k m ks)), some (.int (encN ts.length (abB T ts ls (q ++ [(c : Int)])) : Nat)), some (.int (encN ts.length (elB T ts ls ((lastE ks b).map fun (j : Nat) => q ++ [(j : Int)])) : Nat)), some (.int (c : Int)), some (.int (encN ts.length (fun i => fit T ts ls i q) : Nat)), some (tD w)]) _ _ _ _ _
        unfold Lp_Points_bits_at_1
        cases w with
        | tx l =>
          refine ss_if (rs_not (rs_T (rs_un (rs_var (d := .str (Sg l)) (by rw [← tD_tx]; rfl) (rs_isi_str_str (rs_asB ⟨fun z => (by cases z), fun _ => ss_nx ⟨some (tD (.tx l)), ?_⟩⟩))))))
          rw [show lastE ks (b + 1) = lastE ks b by rw [lastE, hw]]
        | el k3 m3 ks3 =>
          refine ss_if (rs_not (rs_T (rs_un (rs_var (d := .tup [wD k3, wD m3, .tup (ks3.map tD)]) (by rw [← tD_el]; rfl) (rs_isi_tup_str (rs_asB ⟨fun _ => ?_, fun z => (by cases z)⟩))))))
          refine ss_set (rs_meth (rs_var (d := ptsD ts ls es) rfl (selfm (by decide) (rs_cons (rs_meth (rs_var (d := ptsD ts ls es) rfl (selfm (by decide) (rs_cons (rs_op (rs_var (d := .tup [wD k3, wD m3, .tup (ks3.map tD)]) (by rw [← tD_el]; rfl) (rs_c (rs_ixT (d := wD k3) (atI_nat (j := 0) rfl) (rs_cons (rs_op (rs_var (d := .tup [wD k3, wD m3, .tup (ks3.map tD)]) (by rw [← tD_el]; rfl) (rs_c (rs_ixT (d := wD m3) (atI_nat (j := 1) rfl) (rs_nil (Rs.of (passed_eq hl) ?_)))))))))))))))))))
          refine rs_cons (rs_var rfl (rs_cons (rs_var rfl (rs_cons (rs_var rfl (rs_nil ?_))))))
          refine here (q := fun i => fit T ts ls i (q ++ [(b : Int)])) (fun i _ => (fit_kid h0 hu hw _ i).symm) ⟨some (tD (.el k3 m3 ks3)), ?_⟩
          rw [show lastE ks (b + 1) = some b by rw [lastE, hw]]
          rfl
      · rintro r ⟨x8, rfl⟩
        rw [List.length_map, List.length_take, Nat.min_eq_left (by omega), show lastE ks (c + 1) = some c by rw [lastE, hst]]
        refine ss_set (rs_op (rs_op (rs_var (d := .tup [wD k, wD m, .tup (ks.map tD)]) (by rw [← tD_el]; rfl) (rs_c (rs_ixT (d := .tup (ks.map tD)) (atI_nat (j := 2) rfl) (rs_var rfl (rs_ixT (d := tD (.el k2 m2 ks2)) (atI_nat (by rw [List.getElem?_map, hst]; rfl)) ?_)))))))
        refine ⟨by omega, _, k2, m2, ks2, some (.int (c : Int)), some (.int (encN ts.length (fun i => fit T ts ls i q) : Nat)), x8, rfl, hv, ?_⟩
        rw [htk]
        rfl
  · rintro r ⟨_, u, k, m, ks, x6, x7, x8, rfl, hu, rfl⟩
    rw [List.length_map, List.take_length]
    exact ss_ret (rs_var rfl rfl))
theorem bits_no {T : Tr} {ts : List TT} {ls : List Ln} {es : List Nat} {p : Pl} (h : ∀ k m ks, atT T p ≠ some (.el k m ks)) :
    F_Points_bits_at [ptsD ts ls es, tD T, pl p] = .err ("NoPlace" : Str) [("place" : Str)] [pl p] := Rs.errEq (by
  refine rs_run ?_
  unfold Fb_Points_bits_at
  show Ss (seqF _ _ [some (ptsD ts ls es), some (tD T), some (pl p), none, none, none, none, none, none]) _ _ _ _ _
  refine ss_seq (ss_if (rs_T (rs_un (rs_call (rs_cons (rs_var (d := tD T) rfl (rs_cons (rs_var (d := pl p) rfl (rs_nil ((node_sp T p).impE ?_ ?_))))))))))
  · rintro _ ⟨u, hu, rfl⟩
    cases u with
    | el k m ks => exact absurd hu (h k m ks)
    | tx l =>
      rw [tD_tx]
      refine rs_isi_str_str (rs_asB ⟨fun _ => ?_, fun z => (by cases z)⟩)
      exact ss_raise (rs_cons (rs_var (d := pl p) rfl (rs_nil ⟨rfl, rfl, rfl, rfl⟩)))
  · rintro n ns vs ⟨_, z⟩
    exact z)
end
section
theorem pat_ok {l : List Nat} {ts : List TT} {ls : List Ln} (hl : l.length ≤ 9000) (h : readT l = some (ts, ls)) : F_Pattern_init [wD l] = .ok (ptD ⟨l, ts, ls⟩) := Rs.eq (by
  have hr := read_pattern_eq hl
  rw [h] at hr
  refine rs_runI ?_
  unfold Fb_Pattern_init
  show Ss (seqF _ _ [some (.obj "Pattern" [] []), some (wD l), none]) _ _ _ _ _
  refine ss_seq (ss_set (rs_call (rs_cons (rs_var (d := wD l) rfl (rs_nil (Rs.of hr ?_))))))
  refine ss_seq (ss_if (rs_T (rs_op (rs_var rfl (rs_c (rs_is (rs_asB ⟨fun z => (by cases z), fun _ => ss_nx ?_⟩)))))))
  refine ss_seq (ss_fstP (ns := []) (vs := []) (ns' := ["text"]) (vs' := [wD l]) (rs_var rfl rfl) rfl (by decide) rfl ?_)
  refine ss_seq (ss_fstP (ns := ["text"]) (vs := [wD l]) (ns' := ["text", "tests"]) (vs' := [wD l, .tup (ts.map ttD)]) (rs_op (rs_var rfl (rs_c (rs_ixT (d := .tup (ts.map ttD)) (atI_nat (j := 0) rfl) rfl)))) rfl (by decide) (by rfl) ?_)
  refine ss_fstP (ns := ["text", "tests"]) (vs := [wD l, .tup (ts.map ttD)]) (ns' := ["text", "tests", "links"]) (vs' := [wD l, .tup (ts.map ttD), .tup (ls.map fun k => wD (lnW k))]) (rs_op (rs_var rfl (rs_c (rs_ixT (d := .tup (ls.map fun k => wD (lnW k))) (atI_nat (j := 1) rfl) rfl)))) rfl (by decide) (by rfl) ?_
  exact ⟨_, rfl, rfl⟩)
theorem band_top {n : Nat} (f : Nat → Bool) (hn : 0 < n) : (encN n f &&& 2 ^ (n - 1)) = if f (n - 1) = true then 2 ^ (n - 1) else 0 := Nat.eq_of_testBit_eq fun i => by
  rw [Nat.testBit_and, encN_bit, Nat.testBit_two_pow]
  by_cases e : n - 1 = i
  · subst e
    rw [decide_eq_true rfl, Bool.and_true, decide_eq_true (by omega), Bool.true_and]
    by_cases h : f (n - 1) = true
    · rw [if_pos h, h, Nat.testBit_two_pow, decide_eq_true rfl]
    · have h : f (n - 1) = false := by simpa using h
      rw [if_neg (by rw [h]; decide), h, Nat.zero_testBit]
  · rw [decide_eq_false e, Bool.and_false]
    split
    · rw [Nat.testBit_two_pow, decide_eq_false e]
    · rw [Nat.zero_testBit]
theorem call_ok {P : Pt} {T : Tr} {p : Pl} {K M : List Nat} {KS : List Tr} (hP : PtOk P) (h0 : P.ls[0]? = some .st) (hp : atT T p = some (.el K M KS)) :
    F_Pattern_call [ptD P, tD T, pl p] = .ok (.bl (fit T P.ts P.ls (P.ts.length - 1) p)) := Rs.eq (by
  obtain ⟨q1, q2, q3⟩ := hP
  have hpt := points_eq (ps := [P]) (fun p hp => by rw [List.mem_singleton.mp hp]; exact ⟨q1, q2, q3⟩) (by simp)
  rw [show [P].flatMap (·.ts) = P.ts by simp, show [P].flatMap (·.ls) = P.ls by simp, show endsOf 0 [P] = [P.ts.length] by simp [endsOf]] at hpt
  refine rs_run ?_
  unfold Fb_Pattern_call
  show Ss (seqF _ _ [some (ptD P), some (tD T), some (pl p), none]) _ _ _ _ _
  refine ss_seq (ss_set (rs_call (rs_cons (rs_lst (rs_cons (rs_var (d := ptD P) rfl (rs_nil ⟨Nat.le_of_ble_eq_true rfl, rs_nil (Rs.of hpt ?_)⟩)))))))
  refine ss_ret (rs_op (rs_op (rs_meth (rs_var (d := ptsD P.ts P.ls [P.ts.length]) rfl (rs_isObj (by decide) (rs_cons (rs_var (d := tD T) rfl (rs_cons (rs_var (d := pl p) rfl (rs_nil (Rs.of (bits_ok (by omega) q1 h0 hp) ?_)))))))))))
  refine rs_op (rs_un (rs_var (d := ptsD P.ts P.ls [P.ts.length]) rfl (rs_fld (d := iL [((2 ^ (P.ts.length - 1) : Nat) : Int)]) rfl (rs_c (rs_ixL (d := .int ((2 ^ (P.ts.length - 1) : Nat) : Int)) (atI_nat (j := 0) rfl) (rs_ints (rs_c (rs_neI ?_))))))))
  rw [band, band_top _ q2]
  have : 0 < 2 ^ (P.ts.length - 1) := Nat.two_pow_pos _
  cases fit T P.ts P.ls (P.ts.length - 1) p with
  | true =>
    rw [if_pos rfl, decide_eq_false (by omega)]
    rfl
  | false =>
    rw [if_neg Bool.false_ne_true]
    rfl)
theorem call_no {P : Pt} {T : Tr} {p : Pl} (hP : PtOk P) (h : ∀ k m ks, atT T p ≠ some (.el k m ks)) : F_Pattern_call [ptD P, tD T, pl p] = .err ("NoPlace" : Str) [("place" : Str)] [pl p] := Rs.errEq (by
  obtain ⟨q1, q2, q3⟩ := hP
  have hpt := points_eq (ps := [P]) (fun p hp => by rw [List.mem_singleton.mp hp]; exact ⟨q1, q2, q3⟩) (by simp)
  rw [show [P].flatMap (·.ts) = P.ts by simp, show [P].flatMap (·.ls) = P.ls by simp, show endsOf 0 [P] = [P.ts.length] by simp [endsOf]] at hpt
  refine rs_run ?_
  unfold Fb_Pattern_call
  show Ss (seqF _ _ [some (ptD P), some (tD T), some (pl p), none]) _ _ _ _ _
  refine ss_seq (ss_set (rs_call (rs_cons (rs_lst (rs_cons (rs_var (d := ptD P) rfl (rs_nil ⟨Nat.le_of_ble_eq_true rfl, rs_nil (Rs.of hpt ?_)⟩)))))))
  exact ss_ret (rs_op (rs_op (rs_meth (rs_var (d := ptsD P.ts P.ls [P.ts.length]) rfl (rs_isObj (by decide) (rs_cons (rs_var (d := tD T) rfl (rs_cons (rs_var (d := pl p) rfl (rs_nil (Rs.ofE (bits_no h) ⟨rfl, rfl, rfl⟩))))))))))))
end
section
def oPl : Option Pl → D
  | some p => pl p
  | none => .non
def kP (p : Pl) : List Key := p.map Sum.inl
theorem keyT_pl (p : Pl) : keyT (pl p) = some (kP p) := by
  have : ∀ p : Pl, keysD (p.map D.int) = some (p.map Sum.inl) := by
    intro p
    induction p with
    | nil => rfl
    | cons x p ih => rw [List.map_cons, keysD, ih]; rfl
  exact this p
theorem kP_inj {p q : Pl} (h : kP p = kP q) : p = q := List.map_inj_right (fun _ _ e => Sum.inl.inj e) |>.mp h
/-- what is told of the element at a place -/
def vD (T : Tr) (p : Pl) : D := match atT T p with
  | some (.el k m ks) => .tup [wD k, wD m, oPl (eldP T p), .int (ks.length : Int)]
  | _ => .non
def entT (T : Tr) (L : List Pl) : TT2 := L.map fun p => (kP p, vD T p)
theorem ent_get {T : Tr} {L : List Pl} {p : Pl} (h : p ∈ L) : lkT (entT T L) (kP p) = some (vD T p) := by
  induction L with
  | nil => cases h
  | cons q L ih =>
    unfold entT at ih ⊢
    rw [List.map_cons, lkT_cons]
    by_cases e : kP q = kP p
    · rw [if_pos e, kP_inj e]
    · rw [if_neg e]
      rcases List.mem_cons.mp h with h | h
      · exact absurd (by rw [h]) e
      · exact ih h
theorem ent_nd {T : Tr} {L : List Pl} (h : L.Nodup) : NdT (entT T L) := by
  unfold NdT entT
  rw [List.map_map]
  exact List.pairwise_map.mpr (List.Pairwise.imp (fun {a b} hne e => hne (kP_inj e)) h)
theorem ent_app {T : Tr} {L : List Pl} {p : Pl} (h : p ∉ L) : setTT (entT T L) (kP p) (vD T p) = entT T (L ++ [p]) := by
  rw [setTT_new]
  · unfold entT; rw [List.map_append]; rfl
  · unfold entT
    rw [List.map_map]
    intro hm
    obtain ⟨q, hq, e⟩ := List.mem_map.mp hm
    exact h (kP_inj e ▸ hq)
/-- a node that waits: itself, its place, its elder sibling -/
structure Wn where
  u : Tr
  p : Pl
  e : Option Pl
def wnD (x : Wn) : D := .tup [tD x.u, pl x.p, oPl x.e]
def kidW (p : Pl) (ks : List Tr) (n : Nat) : List Wn := (List.range n).map fun (c : Nat) => ⟨ks.getD c (.tx []), p ++ [(c : Int)], (lastE ks c).map fun (j : Nat) => p ++ [(j : Int)]⟩
theorem kidW_succ (p : Pl) (ks : List Tr) (n : Nat) : kidW p ks (n + 1) = kidW p ks n ++ [⟨ks.getD n (.tx []), p ++ [(n : Int)], (lastE ks n).map fun (j : Nat) => p ++ [(j : Int)]⟩] := by
  unfold kidW
  rw [List.range_succ, List.map_append]
  rfl
def szW (l : List Wn) : Nat := (l.map fun x => sz x.u).sum
theorem szW_app (a b : List Wn) : szW (a ++ b) = szW a + szW b := by unfold szW; rw [List.map_append, List.sum_append]
theorem szW_len : ∀ l : List Wn, l.length ≤ szW l
  | [] => Nat.le_refl _
  | x :: l => by have := szW_len l; have := sz_pos x.u; unfold szW at *; rw [List.map_cons, List.sum_cons, List.length_cons]; omega
theorem kidW_sz (p : Pl) (ks : List Tr) : szW (kidW p ks ks.length) = szs ks := by
  unfold szW kidW
  rw [List.map_map, szs_sum]
  congr 1
  refine List.ext_getElem (by simp) fun i h1 h2 => ?_
  simp at h1 h2
  simp [List.getD_eq_getElem?_getD, h1]
theorem prefix_snoc {x p : Pl} {c : Int} (h : x <+: p ++ [c]) : x <+: p ∨ x = p ++ [c] := by
  rcases List.prefix_concat_iff.mp h with h | h
  · exact .inr h
  · exact .inl h
/-- what is known while the stack S is worked off: the places L of the elements met, X of the texts -/
structure Nd (T : Tr) (L X : List Pl) (S : List Wn) : Prop where
  wait : ∀ x ∈ S, atT T x.p = some x.u ∧ x.e = eldP T x.p
  met : ∀ q ∈ L, ∃ k m ks, atT T q = some (.el k m ks)
  txt : ∀ q ∈ X, ∃ l, atT T q = some (.tx l)
  cov : ∀ q k m ks, atT T q = some (.el k m ks) → q ∈ L ∨ ∃ x ∈ S, x.p <+: q
  new : ∀ q ∈ L, ∀ x ∈ S, ¬ x.p <+: q
  sep : S.Pairwise fun x y => ¬ x.p <+: y.p ∧ ¬ y.p <+: x.p
  nod : L.Nodup
  siz : L.length + X.length + szW S ≤ sz T
theorem Nd.pop_tx {T : Tr} {L X : List Pl} {S : List Wn} {l : List Nat} {p : Pl} {e : Option Pl} (h : Nd T L X (S ++ [⟨.tx l, p, e⟩])) : Nd T L (X ++ [p]) S where
  wait := fun x hx => h.wait x (List.mem_append_left _ hx)
  met := h.met
  txt := fun q hq => by
    rcases List.mem_append.mp hq with hq | hq
    · exact h.txt q hq
    · rw [List.mem_singleton.mp hq]; exact ⟨l, (h.wait _ (List.mem_append_right _ List.mem_cons_self)).1⟩
  cov := fun q k m ks hq => by
    rcases h.cov q k m ks hq with z | ⟨x, hx, z⟩
    · exact .inl z
    · rcases List.mem_append.mp hx with hx | hx
      · exact .inr ⟨x, hx, z⟩
      · exfalso
        rw [List.mem_singleton.mp hx] at z
        obtain ⟨s, rfl⟩ := z
        have := (h.wait _ (List.mem_append_right _ List.mem_cons_self)).1
        rw [atT_app, this] at hq
        cases s <;> simp [atT] at hq
  new := fun q hq x hx => h.new q hq x (List.mem_append_left _ hx)
  sep := (List.pairwise_append.mp h.sep).1
  nod := h.nod
  siz := by
    have := h.siz
    rw [szW_app] at this
    have e : szW [⟨.tx l, p, e⟩] = 1 := by simp [szW, sz]
    rw [e] at this
    rw [List.length_append, List.length_singleton]
    omega
theorem Nd.pop_el {T : Tr} {L X : List Pl} {S : List Wn} {k m : List Nat} {ks : List Tr} {p : Pl} {e : Option Pl} (h : Nd T L X (S ++ [⟨.el k m ks, p, e⟩])) : p ∉ L ∧ Nd T (L ++ [p]) X (S ++ kidW p ks ks.length) := by
  have hat := (h.wait _ (List.mem_append_right _ List.mem_cons_self)).1
  have hat : atT T p = some (.el k m ks) := hat
  have hsep := List.pairwise_append.mp h.sep
  have kid : ∀ x ∈ kidW p ks ks.length, ∃ c, c < ks.length ∧ x.p = p ++ [(c : Int)] ∧ ks[c]? = some x.u ∧ x.e = (lastE ks c).map fun (j : Nat) => p ++ [(j : Int)] := fun x hx => by
    unfold kidW at hx
    obtain ⟨c, hc, rfl⟩ := List.mem_map.mp hx
    have hc := List.mem_range.mp hc
    exact ⟨c, hc, rfl, by simp [List.getD_eq_getElem?_getD, hc], rfl⟩
  refine ⟨fun z => h.new p z _ (List.mem_append_right _ List.mem_cons_self) (List.prefix_refl _), ⟨fun x hx => ?_, fun q hq => ?_, h.txt, fun q k' m' ks' hq => ?_, fun q hq x hx => ?_, ?_, ?_, ?_⟩⟩
  · rcases List.mem_append.mp hx with hx | hx
    · exact h.wait x (List.mem_append_left _ hx)
    · obtain ⟨c, hc, e1, e2, e3⟩ := kid x hx
      refine ⟨?_, by rw [e3, e1, eldP_snoc hat]⟩
      rw [e1, atT_snoc, hat]
      show stepT (.el k m ks) (c : Int) = _
      rw [stepT_el, if_pos (by omega), Int.toNat_natCast, e2]
  · rcases List.mem_append.mp hq with hq | hq
    · exact h.met q hq
    · rw [List.mem_singleton.mp hq]; exact ⟨k, m, ks, hat⟩
  · rcases h.cov q k' m' ks' hq with z | ⟨x, hx, z⟩
    · exact .inl (List.mem_append_left _ z)
    · rcases List.mem_append.mp hx with hx | hx
      · exact .inr ⟨x, List.mem_append_left _ hx, z⟩
      · rw [List.mem_singleton.mp hx] at z
        obtain ⟨s, rfl⟩ := z
        cases s with
        | nil => exact .inl (List.mem_append_right _ (by simp))
        | cons c s =>
          refine .inr ?_
          have hq : atT T (p ++ c :: s) = some (.el k' m' ks') := hq
          rw [atT_app, hat] at hq
          have hq : atT (.el k m ks) (c :: s) = some (.el k' m' ks') := hq
          rw [atT] at hq
          by_cases h0 : 0 ≤ c
          · rw [if_pos h0] at hq
            cases hk : ks[c.toNat]? with
            | none => rw [hk] at hq; cases hq
            | some u =>
              have hcl := (List.getElem?_eq_some_iff.mp hk).1
              refine ⟨⟨ks.getD c.toNat (.tx []), p ++ [((c.toNat : Nat) : Int)], (lastE ks c.toNat).map fun (j : Nat) => p ++ [(j : Int)]⟩, List.mem_append_right _ (List.mem_map.mpr ⟨c.toNat, List.mem_range.mpr hcl, rfl⟩), ⟨s, ?_⟩⟩
              rw [Int.toNat_of_nonneg h0]
              show p ++ [c] ++ s = p ++ c :: s
              simp
          · rw [if_neg h0] at hq; cases hq
  · intro hpre
    rcases List.mem_append.mp hq with hq | hq
    · rcases List.mem_append.mp hx with hx | hx
      · exact h.new q hq x (List.mem_append_left _ hx) hpre
      · obtain ⟨c, hc, e1, _⟩ := kid x hx
        rw [e1] at hpre
        exact h.new q hq _ (List.mem_append_right _ List.mem_cons_self) ((List.prefix_append p _).trans hpre)
    · rw [List.mem_singleton.mp hq] at hpre
      rcases List.mem_append.mp hx with hx | hx
      · exact (hsep.2.2 x hx _ List.mem_cons_self).1 hpre
      · obtain ⟨c, hc, e1, _⟩ := kid x hx
        rw [e1] at hpre
        have := hpre.length_le
        rw [List.length_append, List.length_singleton] at this
        omega
  · refine List.pairwise_append.mpr ⟨hsep.1, ?_, fun x hx y hy => ?_⟩
    · unfold kidW
      refine List.pairwise_map.mpr (List.Pairwise.imp (R := fun a b => a < b) (fun {a b} hab => ?_) List.pairwise_lt_range)
      have : ∀ a b : Nat, a < b → ¬ (p ++ [(a : Int)]) <+: (p ++ [(b : Int)]) ∧ ¬ (p ++ [(b : Int)]) <+: (p ++ [(a : Int)]) := fun a b hab => by
        constructor
        · intro z
          have := (List.prefix_append_right_inj p).mp z
          have := List.prefix_cons_iff.mp this
          simp at this
          omega
        · intro z
          have := (List.prefix_append_right_inj p).mp z
          have := List.prefix_cons_iff.mp this
          simp at this
          omega
      exact this a b hab
    · obtain ⟨c, hc, e1, _⟩ := kid y hy
      obtain ⟨s1, s2⟩ := hsep.2.2 x hx _ List.mem_cons_self
      have s1 : ¬ x.p <+: p := s1
      have s2 : ¬ p <+: x.p := s2
      rw [e1]
      refine ⟨fun z => ?_, fun z => s2 ((List.prefix_append p _).trans z)⟩
      rcases prefix_snoc z with z | z
      · exact s1 z
      · exact s2 (by rw [z]; exact List.prefix_append p _)
  · rw [List.nodup_append]
    exact ⟨h.nod, by simp, fun a ha b hb => by rw [List.mem_singleton.mp hb]; exact fun z => h.new p (z ▸ ha) _ (List.mem_append_right _ List.mem_cons_self) (List.prefix_refl _)⟩
  · have := h.siz
    rw [szW_app] at this
    have e : szW [⟨.el k m ks, p, e⟩] = 1 + szs ks := by simp [szW, sz]
    rw [e] at this
    rw [szW_app, kidW_sz, List.length_append, List.length_singleton]
    omega
theorem ss_pop {i : Nat} {t : D → Rho → Res Rho} {ds : List D} {d : D} {r : Rho} {N B C : Rho → Prop} {R : D → Prop} {E : Rho → Str → List Str → List D → Prop} (h1 : r[i]? = some (some (.lst (ds ++ [d])))) (h : ∃ r', t d (r.set i (some (.lst ds))) = .ok r' ∧ N r') : Ss (popF i t r) N R B C E := by
  unfold popF
  refine ss_lift (Rs.of (a := ds ++ [d]) (by unfold ownL; rw [h1]) ?_)
  have e : (ds ++ [d])[(ds ++ [d]).length - 1]? = some d := by simp
  rw [e]
  dsimp only
  obtain ⟨r', h2, h3⟩ := h
  rw [List.dropLast_concat, h2]
  exact h3
theorem nodes_sp (T : Tr) (ht : sz T ≤ 5000) : Rs (F_l_nodes [tD T]) (fun d => ∃ L X, d = .lst [dtT (entT T L), .lst (X.map pl)] ∧ Nd T L X []) nE := by
  refine rs_run ?_
  unfold Fb_l_nodes
  show Ss (seqF _ _ [some (tD T), none, none, none, none, none, none, none, none]) _ _ _ _ _
  refine ss_seq (ss_set (rs_dT0t ?_))
  refine ss_seq (ss_set (rs_lst (rs_nil ⟨Nat.zero_le _, ?_⟩)))
  refine ss_seq (ss_set (rs_lst (rs_cons (rs_tup (rs_cons (rs_var rfl (rs_cons (rs_tup (rs_nil ⟨Nat.zero_le _, rs_cons (rs_c (rs_nil ⟨Nat.le_of_ble_eq_true rfl, rs_nil ⟨Nat.le_of_ble_eq_true rfl, ?_⟩⟩))⟩)))))))))
  refine ss_seq (ss_while 100000 (fun k r => ∃ (L X : List Pl) (S : List Wn) (x4 x5 x6 x7 x8 : Option D), r = [some (tD T), some (dtT (entT T L)), some (.lst (X.map pl)), some (.lst (S.map wnD)), x4, x5, x6, x7, x8] ∧ Nd T L X S ∧ szW S = k) ?_ (sz T) _ (by omega) ⟨[], [], [⟨T, [], none⟩], none, none, none, none, none, rfl, ?_, by simp [szW]⟩)
  · rintro k r ⟨L, X, S, x4, x5, x6, x7, x8, rfl, hN, rfl⟩
    have hSl := szW_len S
    have hsz := hN.siz
    refine rs_T (rs_op (rs_call (rs_cons (rs_var (d := .lst (S.map wnD)) rfl (rs_nil (rs_lenL (rs_c (rs_gt (rs_asB ⟨fun h => ?_, fun h => ?_⟩)))))))))
    · have h := of_decide_eq_true h
      rw [List.length_map] at h
      obtain ⟨S', ⟨u, p, e⟩, rfl⟩ : ∃ S' x, S = S' ++ [x] := ⟨S.dropLast, S.getLast (fun z => by rw [z] at h; simp at h), (List.dropLast_concat_getLast _).symm⟩
      obtain ⟨hu, he⟩ : atT T p = some u ∧ e = eldP T p := hN.wait _ (List.mem_append_right _ List.mem_cons_self)
      have hS' := szW_len S'
      have hpl : p.length + 1 ≤ 100000 := by have := at_len p T _ hu; omega
      rw [szW_app] at hSl hsz ⊢
      have hs1 : szW [⟨u, p, e⟩] = sz u := by simp [szW]
      rw [hs1] at hSl hsz ⊢
      unfold Lp_l_nodes_2
      refine ss_seq (ss_pop (ds := S'.map wnD) (d := wnD ⟨u, p, e⟩) (by show some (some (D.lst _)) = _; rw [List.map_append]; rfl) ⟨_, rfl, ?_⟩)
      show Ss (seqF _ _ [some (tD T), some (dtT (entT T L)), some (.lst (X.map pl)), some (.lst (S'.map wnD)), some (tD u), some (pl p), some (oPl e), x7, x8]) _ _ _ _ _
      cases u with
      | tx l =>
        refine ss_seq (ss_if (rs_T (rs_un (rs_var (d := .str (Sg l)) (by rw [← tD_tx]; rfl) (rs_isi_str_str (rs_asB ⟨fun _ => ?_, fun z => (by cases z)⟩))))))
        refine ss_seq (ss_app (ds := X.map pl) rfl (rs_var (d := pl p) rfl ⟨Nat.lt_of_lt_of_le (show _ < 100000 by rw [List.length_map]; omega) sz5, ?_⟩))
        refine ss_ct ⟨szW S', by have := sz_pos (.tx l); omega, L, X ++ [p], S', some (tD (.tx l)), some (pl p), some (oPl e), x7, x8, ?_, hN.pop_tx, rfl⟩
        rw [List.map_append]
        rfl
      | el k m ks =>
        obtain ⟨hnew, hN2⟩ := hN.pop_el
        have hks := len_szs ks
        have hszu : sz (.el k m ks) = 1 + szs ks := by rw [sz]
        have hd : tD (.el k m ks) = .tup [wD k, wD m, .tup (ks.map tD)] := tD_el k m ks
        refine ss_seq (ss_if (rs_T (rs_un (rs_var (d := .tup [wD k, wD m, .tup (ks.map tD)]) (by rw [← hd]; rfl) (rs_isi_tup_str (rs_asB ⟨fun z => (by cases z), fun _ => ss_nx ?_⟩))))))
        refine ss_seq (ss_putTt (T := entT T L) (ent_nd hN.nod) rfl (rs_tup (rs_cons (rs_op (rs_var (d := .tup [wD k, wD m, .tup (ks.map tD)]) (by rw [← hd]; rfl) (rs_c (rs_ixT (d := wD k) (atI_nat (j := 0) rfl) ?_)))))))
        refine rs_cons (rs_op (rs_var (d := .tup [wD k, wD m, .tup (ks.map tD)]) (by rw [← hd]; rfl) (rs_c (rs_ixT (d := wD m) (atI_nat (j := 1) rfl) ?_))))
        refine rs_cons (rs_var (d := oPl e) rfl (rs_cons (rs_call (rs_cons (rs_op (rs_var (d := .tup [wD k, wD m, .tup (ks.map tD)]) (by rw [← hd]; rfl) (rs_c (rs_ixT (d := .tup (ks.map tD)) (atI_nat (j := 2) rfl) (rs_nil (rs_lenT (rs_nil ⟨Nat.le_of_ble_eq_true rfl, ?_⟩)))))))))))
        refine rs_var (d := pl p) rfl ⟨kP p, keyT_pl p, by unfold entT; rw [List.length_map]; omega, ?_⟩
        have ev : D.tup [wD k, wD m, oPl e, .int ((ks.map tD).length : Int)] = vD T p := by unfold vD; rw [hu, he, List.length_map]
        rw [ev, ent_app hnew]
        refine ss_seq (ss_set (rs_c ?_))
        refine ss_rng ks.length (fun c r => ∃ (x8 : Option D), r = [some (tD T), some (dtT (entT T (L ++ [p]))), some (.lst (X.map pl)), some (.lst ((S' ++ kidW p ks c).map wnD)), some (tD (.el k m ks)), some (pl p), some (oPl e), some (oPl ((lastE ks c).map fun (j : Nat) => p ++ [(j : Int)])), x8]) ?_ (by omega) ⟨x8, by simp [kidW]; rfl⟩ ?_ ?_
        · refine rs_call (rs_cons (rs_op (rs_var (d := .tup [wD k, wD m, .tup (ks.map tD)]) (by rw [← hd]; rfl) (rs_c (rs_ixT (d := .tup (ks.map tD)) (atI_nat (j := 2) rfl) (rs_nil (rs_lenT ?_)))))))
          rw [List.length_map]
        · rintro c r hc ⟨x8, rfl⟩
          obtain ⟨w, hw⟩ : ∃ w, ks[c]? = some w := ⟨_, List.getElem?_eq_getElem hc⟩
          have hwd : ks.getD c (.tx []) = w := by rw [List.getD_eq_getElem?_getD, hw]; rfl
          have hat : atI (ks.map tD) (c : Int) = some (tD w) := atI_nat (by rw [List.getElem?_map, hw]; rfl)
          have hkl : (kidW p ks c).length = c := by unfold kidW; rw [List.length_map, List.length_range]
          show Ss (Lp_l_nodes_1 [some (tD T), some (dtT (entT T (L ++ [p]))), some (.lst (X.map pl)), some (.lst ((S' ++ kidW p ks c).map wnD)), some (tD (.el k m ks)), some (pl p), some (oPl e), some (oPl ((lastE ks c).map fun (j : Nat) => p ++ [(j : Int)])), some (.int (c : Int))]) _ _ _ _ _
          unfold Lp_l_nodes_1
          have e1 : p.map D.int ++ [D.int (c : Int)] = (p ++ [(c : Int)]).map D.int := by rw [List.map_append]; rfl
          have plus : ∀ {Q : D → Prop} {E : Str → List Str → List D → Prop}, Q (pl (p ++ [(c : Int)])) → Rs (addD (pl p) (.tup [.int (c : Int)])) Q E := fun {Q E} q => rs_addT (Nat.le_trans (by rw [List.length_map]; exact hpl) sz5) (by rw [e1]; exact q)
          refine ss_seq (ss_app (ds := (S' ++ kidW p ks c).map wnD) rfl (rs_tup (rs_cons (rs_op (rs_op (rs_var (d := .tup [wD k, wD m, .tup (ks.map tD)]) (by rw [← hd]; rfl) (rs_c (rs_ixT (d := .tup (ks.map tD)) (atI_nat (j := 2) rfl) (rs_var rfl (rs_ixT hat ?_))))))))))
          refine rs_cons (rs_op (rs_var (d := pl p) rfl (rs_tup (rs_cons (rs_var rfl (rs_nil ⟨Nat.le_of_ble_eq_true rfl, plus ?_⟩))))))
          refine rs_cons (rs_var rfl (rs_nil ⟨Nat.le_of_ble_eq_true rfl, Nat.lt_of_lt_of_le (show _ < 100000 by rw [List.length_map, List.length_append, hkl]; omega) sz5, ?_⟩))
          have eS : (S' ++ kidW p ks c).map wnD ++ [.tup [tD w, pl (p ++ [(c : Int)]), oPl ((lastE ks c).map fun (j : Nat) => p ++ [(j : Int)])]] = (S' ++ kidW p ks (c + 1)).map wnD := by
            rw [kidW_succ, ← List.append_assoc, List.map_append (l₁ := S' ++ kidW p ks c), hwd]
            rfl
          rw [eS]
          cases w with
          | tx l =>
            refine ss_if (rs_not (rs_T (rs_un (rs_op (rs_op (rs_var (d := .tup [wD k, wD m, .tup (ks.map tD)]) (by rw [← hd]; rfl) (rs_c (rs_ixT (d := .tup (ks.map tD)) (atI_nat (j := 2) rfl) (rs_var rfl (rs_ixT hat ?_))))))))))
            rw [tD_tx]
            refine rs_isi_str_str (rs_asB ⟨fun z => (by cases z), fun _ => ss_nx ⟨some (.int (c : Int)), ?_⟩⟩)
            rw [show lastE ks (c + 1) = lastE ks c by rw [lastE, hw]]
            rfl
          | el k3 m3 ks3 =>
            refine ss_if (rs_not (rs_T (rs_un (rs_op (rs_op (rs_var (d := .tup [wD k, wD m, .tup (ks.map tD)]) (by rw [← hd]; rfl) (rs_c (rs_ixT (d := .tup (ks.map tD)) (atI_nat (j := 2) rfl) (rs_var rfl (rs_ixT hat ?_))))))))))
            rw [tD_el]
            refine rs_isi_tup_str (rs_asB ⟨fun _ => ?_, fun z => (by cases z)⟩)
            refine ss_set (rs_op (rs_var (d := pl p) rfl (rs_tup (rs_cons (rs_var rfl (rs_nil ⟨Nat.le_of_ble_eq_true rfl, plus ⟨some (.int (c : Int)), ?_⟩⟩))))))
            rw [show lastE ks (c + 1) = some c by rw [lastE, hw]]
            rfl
        · rintro r ⟨x8, rfl⟩
          refine ⟨szW (S' ++ kidW p ks ks.length), ?_, L ++ [p], X, S' ++ kidW p ks ks.length, some (tD (.el k m ks)), some (pl p), some (oPl e), _, x8, rfl, hN2, rfl⟩
          rw [szW_app, kidW_sz, hszu]
          omega
    · have h := of_decide_eq_false h
      have hS : S = [] := by
        rw [List.length_map] at h
        exact List.length_eq_zero_iff.mp (by omega)
      subst hS
      refine ss_ret (rs_lst (rs_cons (rs_var (d := dtT (entT T L)) rfl (rs_cons (rs_var (d := .lst (X.map pl)) rfl (rs_nil ⟨Nat.le_of_ble_eq_true rfl, L, X, rfl, hN⟩))))))
  · refine ⟨fun x hx => ?_, fun q hq => ?_, fun q hq => ?_, fun q k m ks _ => .inr ⟨_, List.mem_cons_self, List.nil_prefix⟩, fun q hq => ?_, List.pairwise_singleton _ _, List.nodup_nil, ?_⟩
    · rw [List.mem_singleton.mp hx]
      exact ⟨by simp [atT], by simp [eldP]⟩
    · cases hq
    · cases hq
    · cases hq
    · simp [szW]
end
section
theorem rs_nePl {p q : Pl} {Q : D → Prop} {E : Str → List Str → List D → Prop} (h : Q (.bl (!decide (p = q)))) : Rs (neD (pl p) (pl q)) Q E :=
  rs_neC (cd_tup cd_int) (by decide) (fun _ _ => trivial) (fun _ _ => trivial) rfl h
theorem pre_el {T : Tr} {q s : Pl} {k m : List Nat} {ks : List Tr} (h : atT T (q ++ s) = some (.el k m ks)) : ∃ k m ks, atT T q = some (.el k m ks) := by
  rw [atT_app] at h
  cases e : atT T q with
  | none => rw [e] at h; cases h
  | some u =>
    rw [e] at h
    have h : atT u s = some (.el k m ks) := h
    cases u with
    | el k m ks => exact ⟨_, _, _, rfl⟩
    | tx l => cases s <;> simp [atT] at h
theorem lastE_el : ∀ {ks : List Tr} {c j : Nat}, lastE ks c = some j → ∃ k m ks', ks[j]? = some (.el k m ks')
  | ks, 0, j, h => by cases h
  | ks, c + 1, j, h => by
    rw [lastE] at h
    cases e : ks[c]? with
    | none => rw [e] at h; exact lastE_el h
    | some u =>
      rw [e] at h
      cases u with
      | tx l => exact lastE_el h
      | el k m ks' => cases h; exact ⟨k, m, ks', e⟩
theorem eldP_el {T : Tr} {p e : Pl} (h : eldP T p = some e) : ∃ k m ks, atT T e = some (.el k m ks) := by
  unfold eldP at h
  split at h
  · cases h
  · split at h
    · rename_i k m ks hq
      obtain ⟨j, hj, rfl⟩ := Option.map_eq_some_iff.mp h
      obtain ⟨k', m', ks', hk⟩ := lastE_el hj
      refine ⟨k', m', ks', ?_⟩
      rw [atT_snoc, hq]
      show stepT (.el k m ks) (j : Int) = _
      rw [stepT_el, if_pos (by omega), Int.toNat_natCast, hk]
    · cases h
def lwD (ks : List Ln) : D := .lst (ks.map fun k => wD (sepL k))
theorem sep_el {k : Ln} (h : k ≠ .st) : sepL k = [32, 43, 32] ↔ k = .el := by cases k <;> first | exact absurd rfl h | decide
theorem sep_pa {k : Ln} (h : k ≠ .st) : sepL k = [32, 62, 32] ↔ k = .pa := by cases k <;> first | exact absurd rfl h | decide
theorem fits_eq {T : Tr} {L : List Pl} {ts : List TT} {ks : List Ln} (hL : ∀ q k m kk, atT T q = some (.el k m kk) → q ∈ L) (hM : ∀ q ∈ L, ∃ k m kk, atT T q = some (.el k m kk)) (hb : ∀ q ∈ L, q.length ≤ 50000) (hks : ∀ k ∈ ks, k ≠ .st) (hlen : ts.length = ks.length + 1) :
    ∀ (i n : Nat) (p : Pl), i < n → i < ts.length → p ∈ L → F_l_fits n [dtT (entT T L), .lst (ts.map ttD), lwD ks, pl p, .int (i : Int)] = .ok (.bl (fit T ts (.st :: ks) i p)) := by
  intro i
  induction i with
  | zero =>
    intro n p hn hi hp
    obtain ⟨n, rfl⟩ : ∃ n', n = n' + 1 := ⟨n - 1, by omega⟩
    obtain ⟨k, m, kk, hat⟩ := hM p hp
    obtain ⟨t, ht⟩ : ∃ t, ts[0]? = some t := ⟨_, List.getElem?_eq_getElem hi⟩
    refine Rs.eq ?_
    refine rs_run ?_
    unfold Fb_l_fits
    show Ss (seqF _ _ [some (dtT (entT T L)), some (.lst (ts.map ttD)), some (lwD ks), some (pl p), some (.int ((0 : Nat) : Int)), none, none, none, none, none]) _ _ _ _ _
    refine ss_seq (ss_asg (rs_op (rs_var (d := dtT (entT T L)) rfl (rs_var (d := pl p) rfl (rs_getTt (keyT_pl p) (ent_get hp) ?_)))))
    have hv : vD T p = .tup [wD k, wD m, oPl (eldP T p), .int (kk.length : Int)] := by unfold vD; rw [hat]
    rw [hv]
    refine ⟨[some (dtT (entT T L)), some (.lst (ts.map ttD)), some (lwD ks), some (pl p), some (.int ((0 : Nat) : Int)), some (wD k), some (wD m), some (oPl (eldP T p)), some (.int (kk.length : Int)), none], rfl, ?_⟩
    have ix : ∀ {Q : D → Prop} {E : Str → List Str → List D → Prop}, Q (ttD t) → Rs (ixD (.lst (ts.map ttD)) (.int ((0 : Nat) : Int))) Q E := fun q => rs_ixL (atI_nat (by rw [List.getElem?_map, ht]; rfl)) q
    have hfit : fit T ts (.st :: ks) 0 p = psB t k m := by
      unfold fit passB psAt
      rw [hat, ht]
      simp [lkB]
    rw [hfit]
    unfold psB
    refine ss_seq (ss_if (rs_and (rs_T (rs_op (rs_op (rs_op (rs_var rfl (rs_var rfl (ix (rs_c (rs_ixT (d := wD t.1) (atI_nat (j := 0) rfl) (rs_c (rs_neS (rs_asB ?_))))))))))))))
    refine rs_T (rs_op (rs_op (rs_op (rs_var rfl (rs_var rfl (ix (rs_c (rs_ixT (d := wD t.1) (atI_nat (j := 0) rfl) (rs_var (d := wD k) rfl (rs_neS (rs_asB ⟨fun z => ?_, fun z => ?_⟩)))))))))))
    · have : decide (t.1 = [42] ∨ t.1 = k) = false := by simpa using z
      rw [this]
      exact ss_ret (rs_c rfl)
    · have : decide (t.1 = [42] ∨ t.1 = k) = true := by
        rw [decide_eq_true_eq]
        by_cases h1 : t.1 = [42]
        · exact .inl h1
        · by_cases h2 : t.1 = k
          · exact .inr h2
          · simp [h1, h2] at z
      rw [this]
      refine ss_nx (ss_seq (ss_if (rs_and (rs_T (rs_op (rs_op (rs_op (rs_var rfl (rs_var rfl (ix (rs_c (rs_ixT (d := wD t.2) (atI_nat (j := 1) rfl) (rs_c (rs_neS (rs_asB ?_)))))))))))))))
      refine rs_T (rs_op (rs_op (rs_op (rs_var rfl (rs_var rfl (ix (rs_c (rs_ixT (d := wD t.2) (atI_nat (j := 1) rfl) (rs_var (d := wD m) rfl (rs_neS (rs_asB ⟨fun z => ?_, fun z => ?_⟩)))))))))))
      · have : decide (t.2 = [] ∨ t.2 = m) = false := by simpa using z
        rw [this]
        exact ss_ret (rs_c rfl)
      · have : decide (t.2 = [] ∨ t.2 = m) = true := by
          rw [decide_eq_true_eq]
          by_cases h1 : t.2 = []
          · exact .inl h1
          · by_cases h2 : t.2 = m
            · exact .inr h2
            · simp [h1, h2] at z
        rw [this]
        refine ss_nx (ss_seq (ss_if (rs_T (rs_op (rs_var rfl (rs_c (rs_eqI (rs_asB ⟨fun _ => ss_ret (rs_c rfl), fun z => ?_⟩))))))))
        cases z
  | succ i ih =>
    intro n p hn hi hp
    obtain ⟨n, rfl⟩ : ∃ n', n = n' + 1 := ⟨n - 1, by omega⟩
    have hpl := hb p hp
    obtain ⟨k, m, kk, hat⟩ := hM p hp
    obtain ⟨t, ht⟩ : ∃ t, ts[i + 1]? = some t := ⟨_, List.getElem?_eq_getElem hi⟩
    obtain ⟨lk, hlk⟩ : ∃ l, ks[i]? = some l := ⟨_, List.getElem?_eq_getElem (by omega)⟩
    have hlk2 := hks lk (List.mem_of_getElem? hlk)
    refine Rs.eq ?_
    refine rs_run ?_
    unfold Fb_l_fits
    show Ss (seqF _ _ [some (dtT (entT T L)), some (.lst (ts.map ttD)), some (lwD ks), some (pl p), some (.int ((i + 1 : Nat) : Int)), none, none, none, none, none]) _ _ _ _ _
    refine ss_seq (ss_asg (rs_op (rs_var (d := dtT (entT T L)) rfl (rs_var (d := pl p) rfl (rs_getTt (keyT_pl p) (ent_get hp) ?_)))))
    have hv : vD T p = .tup [wD k, wD m, oPl (eldP T p), .int (kk.length : Int)] := by unfold vD; rw [hat]
    rw [hv]
    refine ⟨[some (dtT (entT T L)), some (.lst (ts.map ttD)), some (lwD ks), some (pl p), some (.int ((i + 1 : Nat) : Int)), some (wD k), some (wD m), some (oPl (eldP T p)), some (.int (kk.length : Int)), none], rfl, ?_⟩
    have ix : ∀ {Q : D → Prop} {E : Str → List Str → List D → Prop}, Q (ttD t) → Rs (ixD (.lst (ts.map ttD)) (.int ((i + 1 : Nat) : Int))) Q E := fun q => rs_ixL (atI_nat (by rw [List.getElem?_map, ht]; rfl)) q
    have iy : ∀ {j : Int} {Q : D → Prop} {E : Str → List Str → List D → Prop}, j = (i : Int) → Q (wD (sepL lk)) → Rs (ixD (lwD ks) (.int j)) Q E := fun e q => by subst e; exact rs_ixL (atI_nat (by rw [List.getElem?_map, hlk]; rfl)) q
    have hsub : ((i + 1 : Nat) : Int) - 1 = (i : Int) := by omega
    have hpass : passB T ts (i + 1) p = (decide (t.1 = [42] ∨ t.1 = k) && decide (t.2 = [] ∨ t.2 = m)) := by
      unfold passB psAt
      rw [hat, ht]
      rfl
    have hl : ∀ l, lkB (.st :: ks) l (i + 1) = decide (lk = l) := fun l => by
      unfold lkB
      rw [List.getElem?_cons_succ, hlk]
      simp
    rw [fit, hpass, hl, hl, hl, hl, decide_eq_false hlk2, Bool.false_or]
    refine ss_seq (ss_if (rs_and (rs_T (rs_op (rs_op (rs_op (rs_var rfl (rs_var rfl (ix (rs_c (rs_ixT (d := wD t.1) (atI_nat (j := 0) rfl) (rs_c (rs_neS (rs_asB ?_))))))))))))))
    refine rs_T (rs_op (rs_op (rs_op (rs_var rfl (rs_var rfl (ix (rs_c (rs_ixT (d := wD t.1) (atI_nat (j := 0) rfl) (rs_var (d := wD k) rfl (rs_neS (rs_asB ⟨fun z => ?_, fun z => ?_⟩)))))))))))
    · have : decide (t.1 = [42] ∨ t.1 = k) = false := by simpa using z
      rw [this]
      exact ss_ret (rs_c rfl)
    · have : decide (t.1 = [42] ∨ t.1 = k) = true := by
        rw [decide_eq_true_eq]
        by_cases h1 : t.1 = [42]
        · exact .inl h1
        · by_cases h2 : t.1 = k
          · exact .inr h2
          · simp [h1, h2] at z
      rw [this]
      refine ss_nx (ss_seq (ss_if (rs_and (rs_T (rs_op (rs_op (rs_op (rs_var rfl (rs_var rfl (ix (rs_c (rs_ixT (d := wD t.2) (atI_nat (j := 1) rfl) (rs_c (rs_neS (rs_asB ?_)))))))))))))))
      refine rs_T (rs_op (rs_op (rs_op (rs_var rfl (rs_var rfl (ix (rs_c (rs_ixT (d := wD t.2) (atI_nat (j := 1) rfl) (rs_var (d := wD m) rfl (rs_neS (rs_asB ⟨fun z => ?_, fun z => ?_⟩)))))))))))
      · have : decide (t.2 = [] ∨ t.2 = m) = false := by simpa using z
        rw [this]
        exact ss_ret (rs_c rfl)
      · have : decide (t.2 = [] ∨ t.2 = m) = true := by
          rw [decide_eq_true_eq]
          by_cases h1 : t.2 = []
          · exact .inl h1
          · by_cases h2 : t.2 = m
            · exact .inr h2
            · simp [h1, h2] at z
        rw [this, Bool.and_self, Bool.true_and]
        refine ss_nx (ss_seq (ss_if (rs_T (rs_op (rs_var rfl (rs_c (rs_eqI (rs_asB ⟨fun z => ?_, fun _ => ss_nx ?_⟩))))))))
        · have := of_decide_eq_true z
          omega
        refine ss_seq (ss_if (rs_T (rs_op (rs_op (rs_var (d := lwD ks) rfl (rs_op (rs_var rfl (rs_c (rs_sub (iy hsub (rs_c (rs_eqS (rs_asB ⟨fun z => ?_, fun z => ss_nx ?_⟩)))))))))))))
        · have hk : lk = .el := (sep_el hlk2).mp (of_decide_eq_true z)
          subst hk
          have e : (decide (Ln.el = Ln.an) && (List.range p.length).any fun j => fit T ts (.st :: ks) i (p.take j)) = false := rfl
          have e2 : (decide (Ln.el = Ln.pa) && (!decide (p = []) && fit T ts (.st :: ks) i p.dropLast)) = false := rfl
          rw [e, e2, Bool.false_or, Bool.false_or, decide_eq_true rfl, Bool.true_and]
          cases he : eldP T p with
          | none => exact ss_ret (rs_andVc (rs_op (rs_var (d := .non) rfl (rs_c (rs_isn (rs_asB ⟨fun z => (by cases z), fun _ => rfl⟩))))))
          | some q =>
            have hq : q ∈ L := by obtain ⟨k', m', kk', h⟩ := eldP_el he; exact hL q _ _ _ h
            refine ss_ret (rs_andVc (rs_op (rs_var (d := pl q) rfl (rs_c (rs_isn (rs_asB ⟨fun _ => ?_, fun z => (by cases z)⟩))))))
            refine rs_call (rs_cons (rs_var (d := dtT (entT T L)) rfl (rs_cons (rs_var (d := .lst (ts.map ttD)) rfl (rs_cons (rs_var (d := lwD ks) rfl (rs_cons (rs_var (d := pl q) rfl (rs_cons (rs_op (rs_var rfl (rs_c (rs_sub (rs_nil ?_))))))))))))))
            rw [hsub]
            exact Rs.of (ih n q (by omega) (by omega) hq) rfl
        · have hk : lk ≠ .el := fun e => by rw [decide_eq_true ((sep_el hlk2).mpr e)] at z; cases z
          rw [decide_eq_false hk, Bool.false_and, Bool.or_false]
          refine ss_seq (ss_if (rs_T (rs_op (rs_op (rs_var (d := lwD ks) rfl (rs_op (rs_var rfl (rs_c (rs_sub (iy hsub (rs_c (rs_eqS (rs_asB ⟨fun z => ?_, fun z => ss_nx ?_⟩)))))))))))))
          · have hk : lk = .pa := (sep_pa hlk2).mp (of_decide_eq_true z)
            subst hk
            have e : (decide (Ln.pa = Ln.an) && (List.range p.length).any fun j => fit T ts (.st :: ks) i (p.take j)) = false := rfl
            rw [e, Bool.false_or, decide_eq_true rfl, Bool.true_and]
            refine ss_ret (rs_andVc (rs_op (rs_var (d := pl p) rfl (rs_tup (rs_nil ⟨Nat.zero_le _, ?_⟩)))))
            refine rs_nePl (q := []) (rs_asB ⟨fun z => ?_, fun z => ?_⟩)
            · have hne : p ≠ [] := by simpa using z
              obtain ⟨q, x, rfl⟩ : ∃ q x, p = q ++ [x] := ⟨p.dropLast, p.getLast hne, (List.dropLast_concat_getLast hne).symm⟩
              rw [decide_eq_false hne, List.dropLast_concat]
              have hq : q ∈ L := by obtain ⟨k', m', kk', h⟩ := pre_el hat; exact hL q _ _ _ h
              refine rs_call (rs_cons (rs_var (d := dtT (entT T L)) rfl (rs_cons (rs_var (d := .lst (ts.map ttD)) rfl (rs_cons (rs_var (d := lwD ks) rfl (rs_cons (rs_sl (rs_var (d := pl (q ++ [x])) rfl (rs_noP (rs_part (rs_un (rs_c (rs_neg (rs_asI (rs_slT ?_))))))))))))))))
              have ec : D.tup (cutL ((q ++ [x]).map D.int) none (some (-1))) = pl q := by
                rw [List.map_append]
                show D.tup (cutL (q.map D.int ++ [D.int x]) none (some (-1))) = _
                rw [cut_init]
                rfl
              rw [ec]
              refine rs_cons (rs_op (rs_var rfl (rs_c (rs_sub (rs_nil ?_)))))
              rw [hsub]
              exact Rs.of (ih n q (by omega) (by omega) hq) rfl
            · have hne : p = [] := by simpa using z
              rw [hne]
              rfl
          · have hk2 : lk ≠ .pa := fun e => by rw [decide_eq_true ((sep_pa hlk2).mpr e)] at z; cases z
            have hk3 : lk = .an := by cases lk <;> first | rfl | exact absurd rfl hlk2 | exact absurd rfl hk | exact absurd rfl hk2
            subst hk3
            have e2 : (decide (Ln.an = Ln.pa) && (!decide (p = []) && fit T ts (.st :: ks) i p.dropLast)) = false := rfl
            rw [e2, Bool.or_false, decide_eq_true rfl, Bool.true_and]
            refine ss_seq (ss_rng p.length (fun j r => (∃ x9, r = [some (dtT (entT T L)), some (.lst (ts.map ttD)), some (lwD ks), some (pl p), some (.int ((i + 1 : Nat) : Int)), some (wD k), some (wD m), some (oPl (eldP T p)), some (.int (kk.length : Int)), x9]) ∧ ∀ a, a < j → fit T ts (.st :: ks) i (p.take a) = false) ?_ (by omega) ⟨⟨none, rfl⟩, fun a ha => by omega⟩ ?_ ?_)
            · refine rs_call (rs_cons (rs_var (d := pl p) rfl (rs_nil (rs_lenT ?_))))
              rw [List.length_map]
            · rintro j r hj ⟨⟨x9, rfl⟩, hno⟩
              have hq : p.take j ∈ L := by
                have : p = p.take j ++ p.drop j := (List.take_append_drop _ _).symm
                rw [this] at hat
                obtain ⟨k', m', kk', h⟩ := pre_el hat
                exact hL _ _ _ _ h
              show Ss (Lp_l_fits_1 _ [some (dtT (entT T L)), some (.lst (ts.map ttD)), some (lwD ks), some (pl p), some (.int ((i + 1 : Nat) : Int)), some (wD k), some (wD m), some (oPl (eldP T p)), some (.int (kk.length : Int)), some (.int (j : Int))]) _ _ _ _ _
              unfold Lp_l_fits_1
              refine ss_if (rs_T (rs_call (rs_cons (rs_var (d := dtT (entT T L)) rfl (rs_cons (rs_var (d := .lst (ts.map ttD)) rfl (rs_cons (rs_var (d := lwD ks) rfl (rs_cons (rs_sl (rs_var (d := pl p) rfl (rs_noP (rs_part (rs_var rfl (rs_asI (rs_slT ?_))))))))))))))))
              rw [cut_take, ← List.map_take]
              refine rs_cons (rs_op (rs_var rfl (rs_c (rs_sub (rs_nil ?_)))))
              rw [hsub]
              refine Rs.of (ih n (p.take j) (by omega) (by omega) hq) (rs_asB ⟨fun z => ?_, fun z => ?_⟩)
              · refine ss_ret (rs_c ?_)
                have : ((List.range p.length).any fun j => fit T ts (.st :: ks) i (p.take j)) = true := List.any_eq_true.mpr ⟨j, List.mem_range.mpr hj, z⟩
                rw [this]
              · refine ss_nx ⟨⟨_, rfl⟩, fun a ha => ?_⟩
                by_cases e : a = j
                · rw [e]; exact z
                · exact hno a (by omega)
            · rintro r ⟨⟨x9, rfl⟩, hno⟩
              refine ss_ret (rs_c ?_)
              have : ((List.range p.length).any fun j => fit T ts (.st :: ks) i (p.take j)) = false := by
                rw [List.any_eq_false]
                intro j hj
                rw [hno j (List.mem_range.mp hj)]
                decide
              rw [this]
end
section
/-- all kinds and marks are such ones -/
def Tk (PK PM : List Nat → Prop) (T : Tr) : Prop := ∀ p k m ks, atT T p = some (.el k m ks) → PK k ∧ PM m
section
variable {PK PM : List Nat → Prop}
theorem tk_tx (l : List Nat) : Tk PK PM (.tx l) := fun p k m ks h => by cases p <;> simp [atT] at h
theorem tk_el {k m : List Nat} {ks : List Tr} (h1 : PK k) (h2 : PM m) (h : ∀ u ∈ ks, Tk PK PM u) : Tk PK PM (.el k m ks) := fun p k' m' ks' hp => by
  cases p with
  | nil => simp [atT] at hp; obtain ⟨rfl, rfl, _⟩ := hp; exact ⟨h1, h2⟩
  | cons c p =>
    rw [atT] at hp
    by_cases h0 : 0 ≤ c
    · rw [if_pos h0] at hp
      cases hk : ks[c.toNat]? with
      | none => rw [hk] at hp; cases hp
      | some u => rw [hk] at hp; exact h u (List.mem_of_getElem? hk) p _ _ _ hp
    · rw [if_neg h0] at hp; cases hp
theorem tk_root {k m : List Nat} {ks : List Tr} (h : Tk PK PM (.el k m ks)) : PK k ∧ PM m := h [] k m ks (by simp [atT])
theorem tk_kid {k m : List Nat} {ks : List Tr} (h : Tk PK PM (.el k m ks)) : ∀ u ∈ ks, Tk PK PM u := fun u hu p k' m' ks' hp => by
  obtain ⟨c, hc, e⟩ := List.getElem_of_mem hu
  refine h ((c : Int) :: p) k' m' ks' ?_
  rw [atT, if_pos (by omega), Int.toNat_natCast, List.getElem?_eq_getElem hc, e]
  exact hp
end
theorem ixN_last {n : Nat} (h : 0 < n) : ixN n (-1) = some (n - 1) := by
  unfold ixN
  rw [if_neg (by omega), if_pos (by omega)]
  congr 1
  omega
theorem atI_last {α : Type} (xs : List α) (x : α) : atI (xs ++ [x]) (-1) = some x := by
  unfold atI
  rw [ixN_last (by simp)]
  show (xs ++ [x])[(xs ++ [x]).length - 1]? = some x
  rw [List.length_append, List.length_cons, List.length_nil, Nat.add_sub_cancel, List.getElem?_append_right (Nat.le_refl _), Nat.sub_self]
  rfl
def LTR : List Int := [9, 4, 20, 3] ++ (List.replicate 9 [4, 3, 4, 3, 3]).flatten
theorem ltr_pos : ∀ l ∈ LTR, 0 < l ∧ l < 4611686018427387904 := by decide
theorem ltr_at : ∀ k < 9, LTR[5 * k + 4]? = some 4 ∧ LTR[5 * k + 5]? = some 3 ∧ LTR[5 * k + 6]? = some 4 ∧ LTR[5 * k + 7]? = some 3 ∧ LTR[5 * k + 8]? = some 3 := by decide
/-- an item: its depth, kind, mark, the two draws -/
structure Im where
  d : Nat
  k : List Nat
  m : List Nat
  a : Int
  b : Int
def imD (x : Im) : D := .tup [.int (x.d : Int), wD x.k, wD x.m, .int x.a, .int x.b]
def bwD (B : List (List Tr)) : D := .lst (B.map fun ts => .tup (ts.map tD))
def szB (B : List (List Tr)) : Nat := (B.map szs).sum
theorem szs_app (a b : List Tr) : szs (a ++ b) = szs a + szs b := by rw [szs_sum, szs_sum, szs_sum, List.map_append, List.sum_append]
theorem szB_set : ∀ {B : List (List Tr)} {i : Nat} {b c : List Tr}, B[i]? = some b → szB (B.set i c) + szs b = szB B + szs c
  | x :: B, 0, b, c, h => by simp at h; subst h; simp [szB]; omega
  | x :: B, i + 1, b, c, h => by
    have := szB_set (B := B) (i := i) (b := b) (c := c) (by simpa using h)
    simp [szB] at this ⊢
    omega
theorem szB_le {B : List (List Tr)} {i : Nat} {b : List Tr} (h : B[i]? = some b) : szs b ≤ szB B := le_sum _ _ (List.mem_map.mpr ⟨b, List.mem_of_getElem? h, rfl⟩)
theorem tree_sp (c : Int) (ks ms : List (List Nat)) {PK PM : List Nat → Prop} (hk : ks.length = 3) (hm : ms.length = 4) (pk : ∀ w ∈ ks, PK w) (pm : ∀ w ∈ ms, PM w) (pn : PM []) :
    Rs (F_l_tree [.int c, .lst (ks.map wD), .lst (ms.map wD)]) (fun d => ∃ k m kk, d = tD (.el k m kk) ∧ sz (.el k m kk) ≤ 100 ∧ Tk PK PM (.el k m kk)) nE := by
  obtain ⟨kz, hkz⟩ : ∃ w, ks[0]? = some w := ⟨_, List.getElem?_eq_getElem (by omega)⟩
  obtain ⟨k2, hk2⟩ : ∃ w, ks[2]? = some w := ⟨_, List.getElem?_eq_getElem (by omega)⟩
  obtain ⟨m1, hm1⟩ : ∃ w, ms[1]? = some w := ⟨_, List.getElem?_eq_getElem (by omega)⟩
  refine rs_run ?_
  unfold Fb_l_tree
  show Ss (seqF _ _ [some (.int c), some (.lst (ks.map wD)), some (.lst (ms.map wD)), none, none, none, none, none, none, none, none, none, none, none, none, none, none, none]) _ _ _ _ _
  refine ss_seq (ss_set (rs_lst (rs_cons (rs_c (rs_cons (rs_c (rs_cons (rs_c (rs_cons (rs_c (rs_nil ⟨Nat.le_of_ble_eq_true rfl, ?_⟩)))))))))))
  refine ss_seq (ss_rng 9 (fun k r => ∃ x4, r = [some (.int c), some (.lst (ks.map wD)), some (.lst (ms.map wD)), some (iL ([9, 4, 20, 3] ++ (List.replicate k [4, 3, 4, 3, 3]).flatten)), x4, none, none, none, none, none, none, none, none, none, none, none, none, none]) (rs_c rfl) (by omega) ⟨none, rfl⟩ ?_ ?_)
  · rintro k r hk9 ⟨x4, rfl⟩
    unfold Lp_l_tree_1
    refine ss_set (rs_op (rs_var rfl (rs_lst (rs_cons (rs_c (rs_cons (rs_c (rs_cons (rs_c (rs_cons (rs_c (rs_cons (rs_c (rs_nil ⟨Nat.le_of_ble_eq_true rfl, ?_⟩))))))))))))))
    have hl : (List.replicate k [(4 : Int), 3, 4, 3, 3]).flatten.length = 5 * k := by rw [List.length_flatten, List.map_replicate, List.sum_replicate_nat]; simp; omega
    refine rs_addLL (Nat.le_trans (show _ ≤ 100000 by rw [List.length_map, List.length_append, hl]; simp; omega) sz5) ⟨some (.int (k : Int)), ?_⟩
    rw [show List.replicate (k + 1) [(4 : Int), 3, 4, 3, 3] = List.replicate k [(4 : Int), 3, 4, 3, 3] ++ [[4, 3, 4, 3, 3]] from List.replicate_succ', List.flatten_append, ← List.append_assoc]
    show [_, _, _, some (D.lst _), _, _, _, _, _, _, _, _, _, _, _, _, _, _] = [_, _, _, some (D.lst _), _, _, _, _, _, _, _, _, _, _, _, _, _, _]
    rw [List.map_append (l₁ := [9, 4, 20, 3] ++ _)]
    rfl
  rintro r ⟨x4, rfl⟩
  refine ss_seq (ss_set (rs_call (rs_cons (rs_var rfl (rs_cons (rs_var rfl (rs_nil ?_)))))))
  refine row_of c LTR ltr_pos (by decide) fun vs hf => ?_
  obtain ⟨v0, hv0, h00, h01⟩ := hf.get (k := 0) (l := 9) rfl
  obtain ⟨v1, hv1, h10, h11⟩ := hf.get (k := 1) (l := 4) rfl
  obtain ⟨v2, hv2, h20, h21⟩ := hf.get (k := 2) (l := 20) rfl
  obtain ⟨v3, hv3, h30, h31⟩ := hf.get (k := 3) (l := 3) rfl
  have hvl : vs.length = 49 := hf.len
  have ix : ∀ {k : Nat} {v i : Int} {Q : D → Prop} {E : Str → List Str → List D → Prop}, vs[k]? = some v → i = (k : Int) → Q (.int v) → Rs (ixD (iL vs) (.int i)) Q E := fun h e q => by
    subst e
    exact rs_ixL (atI_nat (by rw [List.getElem?_map, h]; rfl)) q
  refine ss_seq (ss_set (rs_lst (rs_nil ⟨Nat.zero_le _, ?_⟩)))
  refine ss_seq (ss_set (rs_c ?_))
  obtain ⟨n, hn⟩ : ∃ n : Nat, v0 + 1 = (n : Int) := ⟨(v0 + 1).toNat, by omega⟩
  have hn1 : 1 ≤ n ∧ n ≤ 9 := by omega
  refine ss_seq (ss_rng n (fun i r => ∃ (I : List Im) (δ : Nat) (x4 x8 : Option D), r = [some (.int c), some (.lst (ks.map wD)), some (.lst (ms.map wD)), some (iL LTR), x4, some (iL vs), some (.lst (I.map imD)), some (.int (δ : Int)), x8, none, none, none, none, none, none, none, none, none] ∧ I.length = i ∧ (i = 0 → δ = 0) ∧ δ ≤ i - 1 ∧ (∀ j x, I[j]? = some x → PK x.k ∧ PM x.m ∧ x.d ≤ j ∧ (0 < j → 1 ≤ x.d))) ?_ (by omega) ⟨[], 0, _, _, rfl, rfl, fun _ => rfl, by omega, fun j x h => by simp at h⟩ ?_ ?_)
  · refine rs_op (rs_op (rs_var rfl (rs_c (ix hv0 rfl (rs_c (rs_add ?_))))))
    rw [hn]
  · rintro i r hi ⟨I, δ, x4, x8, rfl, hI, hδ0, hδ, hall⟩
    obtain ⟨a0, a1, a2, a3, a4⟩ := ltr_at i (by omega)
    obtain ⟨w0, g0, l0, u0⟩ := hf.get a0
    obtain ⟨w1, g1, l1, u1⟩ := hf.get a1
    obtain ⟨w2, g2', l2, u2⟩ := hf.get a2
    obtain ⟨w3, g3, l3, u3⟩ := hf.get a3
    obtain ⟨w4, g4, l4, u4⟩ := hf.get a4
    have hpart : (vs.take (5 * i + 9)).drop (5 * i + 4) = [w0, w1, w2, w3, w4] := by
      refine List.ext_getElem? fun j => ?_
      rw [List.getElem?_drop]
      by_cases hj : j < 5
      · rw [List.getElem?_take_of_lt (by omega)]
        have : j = 0 ∨ j = 1 ∨ j = 2 ∨ j = 3 ∨ j = 4 := by omega
        rcases this with rfl | rfl | rfl | rfl | rfl
        · exact g0
        · exact g1
        · exact g2'
        · exact g3
        · exact g4
      · rw [List.getElem?_eq_none (by rw [List.length_take]; omega), List.getElem?_eq_none (by simp; omega)]
    show Ss (Lp_l_tree_2 [some (.int c), some (.lst (ks.map wD)), some (.lst (ms.map wD)), some (iL LTR), some (.int (i : Int)), some (iL vs), some (.lst (I.map imD)), some (.int (δ : Int)), x8, none, none, none, none, none, none, none, none, none]) _ _ _ _ _
    unfold Lp_l_tree_2
    refine ss_seq (ss_set (rs_sl (rs_var rfl (rs_part (rs_op (rs_op (rs_c (rs_var rfl (rs_mul (Or.inl (small_of (by omega) (by omega))) (rs_c (rs_add (rs_asI (rs_part (rs_op (rs_op (rs_c (rs_var rfl (rs_mul (Or.inl (small_of (by omega) (by omega))) (rs_c (rs_add (rs_asI (rs_slL ?_))))))))))))))))))))))
    rw [show (5 * (i : Int) + 4) = ((5 * i + 4 : Nat) : Int) by omega, show (5 * (i : Int) + 9) = ((5 * i + 9 : Nat) : Int) by omega, cut_mid, ← List.map_take, ← List.map_drop, hpart]
    have ip : ∀ {k : Nat} {v i : Int} {Q : D → Prop} {E : Str → List Str → List D → Prop}, [w0, w1, w2, w3, w4][k]? = some v → i = (k : Int) → Q (.int v) → Rs (ixD (.lst ([w0, w1, w2, w3, w4].map D.int)) (.int i)) Q E := fun h e q => by
      subst e
      exact rs_ixL (atI_nat (by rw [List.getElem?_map, h]; rfl)) q
    refine ss_seq (ss_cut (fun r => ∃ δ' : Nat, δ' ≤ i ∧ (0 < i → 1 ≤ δ') ∧ r = [some (.int c), some (.lst (ks.map wD)), some (.lst (ms.map wD)), some (iL LTR), some (.int (i : Int)), some (iL vs), some (.lst (I.map imD)), some (.int (δ' : Int)), some (.lst ([w0, w1, w2, w3, w4].map D.int)), none, none, none, none, none, none, none, none, none]) ?_ ?_)
    · refine ss_if (rs_T (rs_op (rs_var rfl (rs_c (rs_gt (rs_asB ⟨fun z => ?_, fun z => ?_⟩))))))
      · have z := of_decide_eq_true z
        refine ss_set (rs_op (rs_lst (rs_cons (rs_op (rs_var rfl (rs_c (rs_add (rs_cons (rs_call (rs_cons (rs_var rfl (rs_cons (rs_c (rs_nil (rs_g2 ?_)))))))))))))))
        refine rs_cons (rs_call (rs_cons (rs_op (rs_var rfl (rs_c (rs_sub (rs_cons (rs_c (rs_nil (rs_g2 ?_))))))))))
        refine rs_cons (rs_c (rs_nil ⟨Nat.le_of_ble_eq_true rfl, rs_op (rs_var rfl (rs_c (ip (k := 0) rfl rfl ?_)))⟩))
        rw [max2_eq, max2_eq]
        obtain ⟨δ', e1, e2, e3⟩ : ∃ δ' : Nat, δ' ≤ i ∧ 1 ≤ δ' ∧ atI [D.int ((δ : Int) + 1), .int (max (δ : Int) 1), .int (max ((δ : Int) - 1) 1), .int 1] w0 = some (.int (δ' : Int)) := by
          have : w0 = 0 ∨ w0 = 1 ∨ w0 = 2 ∨ w0 = 3 := by omega
          rcases this with rfl | rfl | rfl | rfl
          · exact ⟨δ + 1, by omega, by omega, by show some (D.int ((δ : Int) + 1)) = _; rw [Int.natCast_add]; rfl⟩
          · exact ⟨(max (δ : Int) 1).toNat, by omega, by omega, by show some (D.int (max (δ : Int) 1)) = _; rw [Int.toNat_of_nonneg (by omega)]⟩
          · exact ⟨(max ((δ : Int) - 1) 1).toNat, by omega, by omega, by show some (D.int (max ((δ : Int) - 1) 1)) = _; rw [Int.toNat_of_nonneg (by omega)]⟩
          · exact ⟨1, by omega, by omega, rfl⟩
        exact rs_ixL e3 ⟨δ', e1, fun _ => e2, rfl⟩
      · have z := of_decide_eq_false z
        exact ss_nx ⟨δ, by omega, fun h => by omega, rfl⟩
    rintro _ ⟨δ', hd1, hd2, rfl⟩
    obtain ⟨kw, hkw⟩ : ∃ w, ks[w1.toNat]? = some w := ⟨_, List.getElem?_eq_getElem (by omega)⟩
    obtain ⟨mw, hmw⟩ : ∃ w, ms[w2.toNat]? = some w := ⟨_, List.getElem?_eq_getElem (by omega)⟩
    refine ss_app (ds := I.map imD) rfl (rs_tup (rs_cons (rs_var rfl (rs_cons (rs_op (rs_var rfl (rs_op (rs_var rfl (rs_c (ip (k := 1) rfl rfl (rs_ixL (d := wD kw) (at_pos l1 (by rw [List.getElem?_map, hkw]; rfl)) ?_)))))))))))
    refine rs_cons (rs_op (rs_var rfl (rs_op (rs_var rfl (rs_c (ip (k := 2) rfl rfl (rs_ixL (d := wD mw) (at_pos l2 (by rw [List.getElem?_map, hmw]; rfl)) ?_)))))))
    refine rs_cons (rs_op (rs_var rfl (rs_c (ip (k := 3) rfl rfl (rs_cons (rs_op (rs_var rfl (rs_c (ip (k := 4) rfl rfl (rs_nil ⟨Nat.le_of_ble_eq_true rfl, Nat.lt_of_lt_of_le (show _ < 100000 by rw [List.length_map]; omega) sz5, ?_⟩))))))))))
    refine ⟨I ++ [⟨δ', kw, mw, w3, w4⟩], δ', some (.int (i : Int)), some (.lst ([w0, w1, w2, w3, w4].map D.int)), ?_, by rw [List.length_append, hI]; rfl, fun h => by omega, by omega, fun j x hx => ?_⟩
    · rw [List.map_append]; rfl
    · by_cases hj : j < I.length
      · rw [List.getElem?_append_left hj] at hx
        exact hall j x hx
      · rw [List.getElem?_append_right (by omega)] at hx
        have hj0 : j - I.length = 0 := by
          by_cases e : j - I.length = 0
          · exact e
          · rw [List.getElem?_eq_none (by simp; omega)] at hx; cases hx
        rw [hj0] at hx
        have hx : some (⟨δ', kw, mw, w3, w4⟩ : Im) = some x := hx
        cases hx
        exact ⟨pk _ (List.mem_of_getElem? hkw), pm _ (List.mem_of_getElem? hmw), by show δ' ≤ j; omega, fun h => by show 1 ≤ δ'; exact hd2 (by omega)⟩
  rintro r ⟨I, δ, x4, x8, rfl, hI, _, _, hall⟩
  refine ss_seq (ss_set (rs_op (rs_lst (rs_cons (rs_tup (rs_nil ⟨Nat.zero_le _, rs_nil ⟨Nat.le_of_ble_eq_true rfl, ?_⟩⟩))))))
  refine rs_op (rs_call (rs_cons (rs_var (d := .lst (I.map imD)) rfl (rs_nil (rs_lenL (rs_c (rs_add ?_)))))))
  rw [List.length_map, hI]
  refine rs_repL ⟨by omega, by omega, Nat.le_trans (show _ ≤ 100000 by simp; omega) sz5⟩ ?_
  have hB0 : (List.replicate ((n : Int) + 2).toNat [D.tup []]).flatten = (List.replicate (n + 2) ([] : List Tr)).map fun ts => D.tup (ts.map tD) := by
    rw [show ((n : Int) + 2).toNat = n + 2 by omega, List.map_replicate]
    generalize n + 2 = q
    induction q with
    | zero => rfl
    | succ q ih => rw [List.replicate_succ, List.replicate_succ, List.flatten_cons, ih]; rfl
  rw [hB0]
  refine ss_seq (ss_for (fun i r => ∃ (B : List (List Tr)) (x4 x7 x10 x11 x12 x13 x14 x15 : Option D), r = [some (.int c), some (.lst (ks.map wD)), some (.lst (ms.map wD)), some (iL LTR), x4, some (iL vs), some (.lst (I.map imD)), x7, x8, some (bwD B), x10, x11, x12, x13, x14, x15, none, none] ∧ B.length = n + 2 ∧ (∀ b ∈ B, ∀ u ∈ b, Tk PK PM u) ∧ szB B ≤ 3 * i ∧ (i < n → B[0]? = some []) ∧ (i = n → ∃ b k m kk, B[0]? = some (b ++ [.el k m kk]))) (rs_its (rs_cons (rs_op (rs_call (rs_cons (rs_var (d := .lst (I.map imD)) rfl (rs_nil (rs_lenL (rs_c (rs_sub (rs_cons (rs_un (rs_c (rs_neg (rs_cons (rs_un (rs_c (rs_neg (rs_nil (rs_rng3 ?_ ⟨⟨List.replicate (n + 2) [], x4, _, none, none, none, none, none, none, rfl, by rw [List.length_replicate], fun b hb u hu => ?_, ?_, fun _ => ?_, fun h => by omega⟩, ?_, ?_⟩)))))))))))))))))))))
  · rw [List.length_map, hI]; omega
  · rw [(List.mem_replicate.mp hb).2] at hu; cases hu
  · unfold szB; rw [List.map_replicate, List.sum_replicate_nat]; simp [szs]
  · rw [List.getElem?_replicate, if_pos (by omega)]
  · rintro i d r hd ⟨B, x4, x7, x10, x11, x12, x13, x14, x15, rfl, hBl, hBk, hBs, hB0, _⟩
    rw [List.length_map, hI] at hd
    unfold rngDn at hd
    rw [List.getElem?_map] at hd
    obtain ⟨i', hi', rfl⟩ := Option.map_eq_some_iff.mp hd
    obtain ⟨hil, e⟩ := List.getElem?_eq_some_iff.mp hi'
    rw [List.getElem_range] at e
    subst e
    rw [List.length_range] at hil
    have hin : i < n := by omega
    obtain ⟨x, hx⟩ : ∃ x, I[n - 1 - i]? = some x := ⟨_, List.getElem?_eq_getElem (by omega)⟩
    obtain ⟨q1, q2, q3, q4⟩ := hall _ x hx
    have hxat : ∀ {Q : D → Prop} {E : Str → List Str → List D → Prop}, Q (imD x) → Rs (ixD (.lst (I.map imD)) (.int ((n : Int) - 1 - (i : Int)))) Q E := fun q => rs_ixL (at_pos (by omega) (by rw [show ((n : Int) - 1 - (i : Int)).toNat = n - 1 - i by omega, List.getElem?_map, hx]; rfl)) q
    obtain ⟨b1, hb1⟩ : ∃ b, B[x.d + 1]? = some b := ⟨_, List.getElem?_eq_getElem (by omega)⟩
    obtain ⟨b0, hb0⟩ : ∃ b, B[x.d]? = some b := ⟨_, List.getElem?_eq_getElem (by omega)⟩
    have hs1 := szB_le hb1
    have hs0 := szB_le hb0
    have hl1 := len_szs b1
    have hl0 := len_szs b0
    refine ⟨_, rfl, ?_⟩
    show Ss (Lp_l_tree_3 [some (.int c), some (.lst (ks.map wD)), some (.lst (ms.map wD)), some (iL LTR), some (.int ((n : Int) - 1 - (i : Int))), some (iL vs), some (.lst (I.map imD)), x7, x8, some (bwD B), x10, x11, x12, x13, x14, x15, none, none]) _ _ _ _ _
    unfold Lp_l_tree_3
    refine ss_seq (ss_asg (rs_op (rs_var (d := .lst (I.map imD)) rfl (rs_var rfl (hxat ⟨_, rfl, ?_⟩)))))
    have hc1 : ((x.d : Int) + 1) = ((x.d + 1 : Nat) : Int) := by omega
    refine ss_seq (ss_set (rs_op (rs_var (d := bwD B) rfl (rs_op (rs_var (d := .int (x.d : Int)) rfl (rs_c (rs_add (rs_ixL (d := .tup (b1.map tD)) (by rw [hc1]; exact atI_nat (by rw [List.getElem?_map, hb1]; rfl)) ?_))))))))
    show Ss (seqF _ _ [some (.int c), some (.lst (ks.map wD)), some (.lst (ms.map wD)), some (iL LTR), some (.int ((n : Int) - 1 - (i : Int))), some (iL vs), some (.lst (I.map imD)), some (.int (x.d : Int)), x8, some (bwD B), some (wD x.k), some (wD x.m), some (.int x.a), some (.int x.b), some (.tup (b1.map tD)), x15, none, none]) _ _ _ _ _
    refine ss_seq (ss_cut (fun r => ∃ t : List Tr, (∀ u ∈ t, Tk PK PM u) ∧ szs t ≤ 1 ∧ r = [some (.int c), some (.lst (ks.map wD)), some (.lst (ms.map wD)), some (iL LTR), some (.int ((n : Int) - 1 - (i : Int))), some (iL vs), some (.lst (I.map imD)), some (.int (x.d : Int)), x8, some (bwD B), some (wD x.k), some (wD x.m), some (.int x.a), some (.int x.b), some (.tup ((b1 ++ t).map tD)), x15, none, none]) ?_ ?_)
    · refine ss_if (rs_T (rs_op (rs_var rfl (rs_c (rs_eqI (rs_asB ⟨fun _ => ?_, fun _ => ss_nx ⟨[], fun u hu => (by cases hu), (by simp [szs]), (by rw [List.append_nil])⟩⟩))))))
      refine ss_set (rs_op (rs_var (d := .tup (b1.map tD)) rfl (rs_tup (rs_cons (rs_c (rs_nil ⟨Nat.le_of_ble_eq_true rfl, rs_addT (Nat.le_trans (show _ ≤ 100000 by rw [List.length_map]; simp; omega) sz5) ?_⟩))))))
      refine ⟨[.tx [122, 32, 121]], fun u hu => by rw [List.mem_singleton.mp hu]; exact tk_tx _, by simp [szs, sz], ?_⟩
      rw [List.map_append, List.map_singleton, tD_tx]
      rfl
    rintro _ ⟨t, ht1, ht2, rfl⟩
    have hB1 := szB_set (c := []) hb1
    have hszn : szs ([] : List Tr) = 0 := by simp [szs]
    have hd1 : (B.set (x.d + 1) [])[x.d]? = some b0 := by rw [List.getElem?_set_ne (by omega)]; exact hb0
    have ixn : ixN (B.map fun ts => D.tup (ts.map tD)).length ((x.d : Int) + 1) = some (x.d + 1) := by rw [hc1]; exact ixN_nat (by rw [List.length_map]; omega)
    refine ss_seq (ss_sto (ds := B.map fun ts => D.tup (ts.map tD)) (n := x.d + 1) (k := (x.d : Int) + 1) (rs_tup (rs_nil ⟨Nat.zero_le _, rfl, rs_op (rs_var (d := .int (x.d : Int)) rfl (rs_c (rs_add ⟨rfl, ixn, ?_⟩)))⟩)))
    have eB1 : (B.map fun ts => D.tup (ts.map tD)).set (x.d + 1) (.tup []) = (B.set (x.d + 1) []).map fun ts => D.tup (ts.map tD) := by rw [List.map_set]; rfl
    rw [eB1]
    have ee : tD (.el x.k x.m (b1 ++ t)) = .tup [wD x.k, wD x.m, .tup ((b1 ++ t).map tD)] := tD_el _ _ _
    refine ss_seq (ss_set (rs_tup (rs_cons (rs_tup (rs_cons (rs_var (d := wD x.k) rfl (rs_cons (rs_var (d := wD x.m) rfl (rs_cons (rs_var (d := .tup ((b1 ++ t).map tD)) rfl (rs_nil ⟨Nat.le_of_ble_eq_true rfl, rs_nil ⟨Nat.le_of_ble_eq_true rfl, ?_⟩⟩)))))))))))
    rw [← ee]
    have hte : Tk PK PM (.el x.k x.m (b1 ++ t)) := tk_el q1 q2 fun u hu => by
      rcases List.mem_append.mp hu with h | h
      · exact hBk b1 (List.mem_of_getElem? hb1) u h
      · exact ht1 u h
    have hse : szs [Tr.el x.k x.m (b1 ++ t)] = 1 + (szs b1 + szs t) := by rw [szs_sum, List.map_singleton, List.sum_singleton, sz, szs_app]
    have hel : ∃ k m kk, Tr.el x.k x.m (b1 ++ t) = .el k m kk := ⟨_, _, _, rfl⟩
    generalize Tr.el x.k x.m (b1 ++ t) = el at hte hse hel
    show Ss (seqF _ _ [some (.int c), some (.lst (ks.map wD)), some (.lst (ms.map wD)), some (iL LTR), some (.int ((n : Int) - 1 - (i : Int))), some (iL vs), some (.lst (I.map imD)), some (.int (x.d : Int)), x8, some (bwD (B.set (x.d + 1) [])), some (wD x.k), some (wD x.m), some (.int x.a), some (.int x.b), some (.tup ((b1 ++ t).map tD)), some (.tup [tD el]), none, none]) _ _ _ _ _
    refine ss_seq (ss_cut (fun r => ∃ t2 : List Tr, (∀ u ∈ t2, Tk PK PM u) ∧ szs t2 ≤ 1 ∧ r = [some (.int c), some (.lst (ks.map wD)), some (.lst (ms.map wD)), some (iL LTR), some (.int ((n : Int) - 1 - (i : Int))), some (iL vs), some (.lst (I.map imD)), some (.int (x.d : Int)), x8, some (bwD (B.set (x.d + 1) [])), some (wD x.k), some (wD x.m), some (.int x.a), some (.int x.b), some (.tup ((b1 ++ t).map tD)), some (.tup ((t2 ++ [el]).map tD)), none, none]) ?_ ?_)
    · refine ss_if (rs_T (rs_op (rs_var rfl (rs_c (rs_eqI (rs_asB ⟨fun _ => ?_, fun _ => ss_nx ⟨[], fun u hu => (by cases hu), (by simp [szs]), rfl⟩⟩))))))
      refine ss_set (rs_op (rs_tup (rs_cons (rs_c (rs_nil ⟨Nat.le_of_ble_eq_true rfl, rs_var (d := .tup [tD el]) rfl (rs_addT (Nat.le_of_ble_eq_true rfl) ?_)⟩)))))
      have e3 : ([Tr.tx [120, 32]] ++ [el]).map tD = [D.str (Sg [120, 32])] ++ [tD el] := by rw [List.map_append, List.map_singleton, List.map_singleton, tD_tx]
      refine ⟨[.tx [120, 32]], fun u hu => by rw [List.mem_singleton.mp hu]; exact tk_tx _, by simp [szs, sz], ?_⟩
      rw [e3]
      rfl
    rintro _ ⟨t2, ht3, ht4, rfl⟩
    have hlt2 := len_szs t2
    have hB2 := szB_set (c := t2 ++ [el] ++ b0) hd1
    rw [szs_app, szs_app, hse] at hB2
    rw [hszn] at hB1
    have hb0at : ∀ {Q : D → Prop} {E : Str → List Str → List D → Prop}, Q (.tup (b0.map tD)) → Rs (ixD (bwD (B.set (x.d + 1) [])) (.int (x.d : Int))) Q E := fun q => rs_ixL (atI_nat (by rw [List.getElem?_map, hd1]; rfl)) q
    have ixn0 : ixN ((B.set (x.d + 1) []).map fun ts => D.tup (ts.map tD)).length (x.d : Int) = some x.d := ixN_nat (by rw [List.length_map, List.length_set]; omega)
    refine ss_sto (ds := (B.set (x.d + 1) []).map fun ts => D.tup (ts.map tD)) (n := x.d) (k := (x.d : Int)) (rs_op (rs_var (d := .tup ((t2 ++ [el]).map tD)) rfl (rs_op (rs_var (d := bwD (B.set (x.d + 1) [])) rfl (rs_var (d := .int (x.d : Int)) rfl (hb0at (rs_addT (Nat.le_trans (show _ ≤ 100000 by rw [List.length_map, List.length_map, List.length_append]; simp; omega) sz5) ⟨rfl, rs_var (d := .int (x.d : Int)) rfl ⟨rfl, ixn0, ?_⟩⟩)))))))
    have eB2 : ((B.set (x.d + 1) []).map fun ts => D.tup (ts.map tD)).set x.d (.tup ((t2 ++ [el]).map tD ++ b0.map tD)) = ((B.set (x.d + 1) []).set x.d (t2 ++ [el] ++ b0)).map fun ts => D.tup (ts.map tD) := by
      rw [← List.map_append]
      exact (List.map_set (f := fun ts => D.tup (ts.map tD)) (l := B.set (x.d + 1) [])).symm
    rw [eB2]
    refine ⟨(B.set (x.d + 1) []).set x.d (t2 ++ [el] ++ b0), _, _, _, _, _, _, _, _, rfl, by rw [List.length_set, List.length_set, hBl], fun b hb u hu => ?_, by omega, fun h => ?_, fun h => ?_⟩
    · rcases List.mem_or_eq_of_mem_set hb with hb | hb
      · rcases List.mem_or_eq_of_mem_set hb with hb | hb
        · exact hBk b hb u hu
        · rw [hb] at hu; cases hu
      · rw [hb] at hu
        rcases List.mem_append.mp hu with hu | hu
        · rcases List.mem_append.mp hu with hu | hu
          · exact ht3 u hu
          · rw [List.mem_singleton.mp hu]; exact hte
        · exact hBk b0 (List.mem_of_getElem? hb0) u hu
    · have := q4 (by omega)
      rw [List.getElem?_set_ne (by omega), List.getElem?_set_ne (by omega)]
      exact hB0 hin
    · have hd0 : x.d = 0 := by omega
      have hz := hB0 hin
      rw [hd0] at hb0
      rw [hz] at hb0
      cases hb0
      obtain ⟨k', m', kk', e⟩ := hel
      refine ⟨t2, k', m', kk', ?_⟩
      rw [hd0, List.getElem?_set_self (by rw [List.length_set]; omega), List.append_nil, e]
  · rintro r ⟨B, x4, x7, x10, x11, x12, x13, x14, x15, rfl, hBl, hBk, hBs, _, hBn⟩
    have hrl : (rngDn (((I.map imD).length : Int) - 1) ((((I.map imD).length : Int) - 1) - -1).toNat).length = n := by unfold rngDn; rw [List.length_map, List.length_range, List.length_map, hI]; omega
    rw [hrl] at hBs hBn
    obtain ⟨b, k, m, kk, hb⟩ := hBn rfl
    have hbs := szB_le hb
    rw [szs_app] at hbs
    have h1 : szs [Tr.el k m kk] = sz (.el k m kk) := by simp [szs]
    rw [h1] at hbs
    have htk : Tk PK PM (.el k m kk) := hBk _ (List.mem_of_getElem? hb) _ (by simp)
    have hlast : atI ((b ++ [Tr.el k m kk]).map tD) (-1) = some (tD (.el k m kk)) := by
      rw [List.map_append]
      show atI (b.map tD ++ [tD (.el k m kk)]) (-1) = _
      exact atI_last _ _
    refine ss_seq (ss_set (rs_op (rs_op (rs_var (d := bwD B) rfl (rs_c (rs_ixL (d := .tup ((b ++ [Tr.el k m kk]).map tD)) (atI_nat (j := 0) (by rw [List.getElem?_map, hb]; rfl)) (rs_un (rs_c (rs_neg (rs_ixT hlast ?_))))))))))
    have hsz0 : sz (.el k m kk) ≤ 27 := by omega
    have hTd : tD (.el k m kk) = .tup [wD k, wD m, .tup (kk.map tD)] := tD_el _ _ _
    have hkk := len_szs kk
    have hszk : sz (.el k m kk) = 1 + szs kk := by rw [sz]
    have hlf : tD (.el kz [] []) = .tup [wD kz, wD [], .tup []] := by rw [tD_el]; rfl
    have kat : ∀ {i : Int} {j : Nat} {w : List Nat} {Q : D → Prop} {E : Str → List Str → List D → Prop}, ks[j]? = some w → i = (j : Int) → Q (wD w) → Rs (ixD (.lst (ks.map wD)) (.int i)) Q E := fun h e q => by subst e; exact rs_ixL (atI_nat (by rw [List.getElem?_map, h]; rfl)) q
    have mat : ∀ {i : Int} {j : Nat} {w : List Nat} {Q : D → Prop} {E : Str → List Str → List D → Prop}, ms[j]? = some w → i = (j : Int) → Q (wD w) → Rs (ixD (.lst (ms.map wD)) (.int i)) Q E := fun h e q => by subst e; exact rs_ixL (atI_nat (by rw [List.getElem?_map, h]; rfl)) q
    refine ss_seq (ss_set (rs_tup (rs_cons (rs_op (rs_var rfl (rs_c (kat hkz rfl (rs_cons (rs_c (rs_cons (rs_tup (rs_nil ⟨Nat.zero_le _, rs_nil ⟨Nat.le_of_ble_eq_true rfl, ?_⟩⟩))))))))))))
    show Ss (seqF _ _ [some (.int c), some (.lst (ks.map wD)), some (.lst (ms.map wD)), some (iL LTR), x4, some (iL vs), some (.lst (I.map imD)), x7, x8, some (bwD B), x10, x11, x12, x13, x14, x15, some (tD (.el k m kk)), some (.tup [wD kz, wD [], .tup []])]) _ _ _ _ _
    rw [← hlf]
    have hleaf : Tk PK PM (.el kz [] []) := tk_el (pk _ (List.mem_of_getElem? hkz)) pn fun u hu => by cases hu
    have hrep : ∀ q : Nat, szs (List.replicate q (Tr.el kz [] [])) = q := fun q => by rw [szs_sum, List.map_replicate, List.sum_replicate_nat]; simp [sz, szs]
    refine ss_seq (ss_cut (fun r => ∃ kk' : List Tr, sz (.el k m kk') ≤ 47 ∧ Tk PK PM (.el k m kk') ∧ r = [some (.int c), some (.lst (ks.map wD)), some (.lst (ms.map wD)), some (iL LTR), x4, some (iL vs), some (.lst (I.map imD)), x7, x8, some (bwD B), x10, x11, x12, x13, x14, x15, some (tD (.el k m kk')), some (tD (.el kz [] []))]) ?_ ?_)
    · refine ss_if (rs_T (rs_op (rs_op (rs_var rfl (rs_c (ix hv1 rfl (rs_c (rs_eqI (rs_asB ⟨fun _ => ?_, fun _ => ss_nx ⟨kk, by omega, htk, rfl⟩⟩)))))))))
      have vT : ∀ {Q : D → Prop} {E : Str → List Str → List D → Prop}, Q (.tup [wD k, wD m, .tup (kk.map tD)]) → Rs (dVar 16 [some (.int c), some (.lst (ks.map wD)), some (.lst (ms.map wD)), some (iL LTR), x4, some (iL vs), some (.lst (I.map imD)), x7, x8, some (bwD B), x10, x11, x12, x13, x14, x15, some (tD (.el k m kk)), some (tD (.el kz [] []))]) Q E := fun q => rs_var (d := tD (.el k m kk)) rfl (by rw [hTd]; exact q)
      refine ss_set (rs_tup (rs_cons (rs_op (vT (rs_c (rs_ixT (d := wD k) (atI_nat (j := 0) rfl) (rs_cons (rs_op (vT (rs_c (rs_ixT (d := wD m) (atI_nat (j := 1) rfl) ?_)))))))))))
      refine rs_cons (rs_op (rs_call (rs_cons (rs_op (rs_lst (rs_cons (rs_var (d := tD (.el kz [] [])) rfl (rs_nil ⟨Nat.le_of_ble_eq_true rfl, rs_op (rs_var rfl (rs_c (ix hv2 rfl (rs_mulL ⟨by omega, by omega, Nat.le_trans (show _ ≤ 100000 by simp; omega) sz5⟩ ?_))))⟩))))))))
      have hfl : (List.replicate v2.toNat [tD (Tr.el kz [] [])]).flatten = (List.replicate v2.toNat (Tr.el kz [] [])).map tD := by
        rw [List.map_replicate]
        generalize v2.toNat = q
        induction q with
        | zero => rfl
        | succ q ih => rw [List.replicate_succ, List.replicate_succ, List.flatten_cons, ih]; rfl
      rw [hfl]
      refine rs_nil (rs_tupL (rs_op (vT (rs_c (rs_ixT (d := .tup (kk.map tD)) (atI_nat (j := 2) rfl) (rs_addT (Nat.le_trans (show _ ≤ 100000 by rw [List.length_map, List.length_map, List.length_replicate]; omega) sz5) ?_))))))
      rw [← List.map_append]
      refine rs_nil ⟨Nat.le_of_ble_eq_true rfl, List.replicate v2.toNat (.el kz [] []) ++ kk, ?_, ?_, ?_⟩
      · rw [sz, szs_app, hrep]; omega
      · exact tk_el (tk_root htk).1 (tk_root htk).2 fun u hu => by
          rcases List.mem_append.mp hu with h | h
          · rw [(List.mem_replicate.mp h).2]; exact hleaf
          · exact tk_kid htk u h
      · rw [tD_el k m (List.replicate v2.toNat (Tr.el kz [] []) ++ kk)]
        rfl
    rintro _ ⟨kk', hs', htk', rfl⟩
    obtain ⟨q, hq⟩ : ∃ q : Nat, v3 = (q : Int) := ⟨v3.toNat, by omega⟩
    refine ss_seq (ss_rng q (fun j r => ∃ (k m : List Nat) (kk : List Tr) (x4 : Option D), sz (.el k m kk) ≤ 47 + j ∧ Tk PK PM (.el k m kk) ∧ r = [some (.int c), some (.lst (ks.map wD)), some (.lst (ms.map wD)), some (iL LTR), x4, some (iL vs), some (.lst (I.map imD)), x7, x8, some (bwD B), x10, x11, x12, x13, x14, x15, some (tD (.el k m kk)), some (tD (.el kz [] []))]) ?_ (by omega) ⟨k, m, kk', x4, hs', htk', rfl⟩ ?_ ?_)
    · refine rs_op (rs_var rfl (rs_c (ix hv3 rfl ?_)))
      rw [hq]
    · rintro j r hj ⟨k, m, kk, x4, hs, htk, rfl⟩
      unfold Lp_l_tree_4
      refine ss_set (rs_tup (rs_cons (rs_op (rs_var rfl (rs_c (kat hk2 rfl (rs_cons (rs_op (rs_var rfl (rs_c (mat hm1 rfl ?_)))))))))))
      refine rs_cons (rs_tup (rs_cons (rs_var (d := tD (.el k m kk)) rfl (rs_nil ⟨Nat.le_of_ble_eq_true rfl, rs_nil ⟨Nat.le_of_ble_eq_true rfl, ?_⟩⟩))))
      refine ⟨k2, m1, [.el k m kk], some (.int (j : Int)), ?_, ?_, ?_⟩
      · have : sz (.el k2 m1 [.el k m kk]) = 1 + (sz (.el k m kk) + 0) := by simp [sz, szs]
        rw [this]; omega
      · exact tk_el (pk _ (List.mem_of_getElem? hk2)) (pm _ (List.mem_of_getElem? hm1)) fun u hu => by rw [List.mem_singleton.mp hu]; exact htk
      · rw [tD_el k2 m1]
        rfl
    · rintro r ⟨k, m, kk, x4, hs, htk, rfl⟩
      exact ss_ret (rs_var rfl ⟨k, m, kk, rfl, by omega, htk⟩)
end
section
def DRP : List Int := [4, 5, 4, 3, 5, 4, 3, 5, 4, 3, 5, 4, 3]
theorem drp_k : ∀ k < 4, DRP[3 * k + 1]? = some 5 ∧ DRP[3 * k + 2]? = some 4 := by decide
theorem drp_s : ∀ k < 3, DRP[3 * k + 3]? = some 3 := by decide
def MkO (w : List Nat) : Prop := w = [] ∨ Nm w
structure Dr (ts : List TT) (ks : List Ln) : Prop where
  one : 1 ≤ ts.length
  four : ts.length ≤ 4
  len : ts.length = ks.length + 1
  ok : ∀ t ∈ ts, KdOk t.1 ∧ MkO t.2
  nst : ∀ k ∈ ks, k ≠ .st
theorem written_sp {ts : List TT} {ks : List Ln} (h : Dr ts ks) : Rs (F_l_written [.lst (ts.map ttD), lwD ks]) (fun d => ∃ t, d = wD t ∧ t.length ≤ 200 ∧ readT t = some (ts, .st :: ks)) nE := by
  refine rs_run ?_
  unfold Fb_l_written
  show Ss (seqF _ _ [some (.lst (ts.map ttD)), some (lwD ks), none, none]) _ _ _ _ _
  refine ss_seq (ss_set (rs_c ?_))
  have h1 := h.one
  have h4 := h.four
  have hl := h.len
  refine ss_seq (ss_rng ts.length (fun k r => ∃ (t : List Nat) (x3 : Option D), r = [some (.lst (ts.map ttD)), some (lwD ks), some (wD t), x3] ∧ t.length ≤ 40 * k ∧ (k = 0 → t = []) ∧ (0 < k → rdP (spc 32 t) .st [] [] = some (ts.take k, (Ln.st :: ks).take k, .an))) ?_ (by omega) ⟨[], none, rfl, by simp, fun _ => rfl, fun h => by omega⟩ ?_ ?_)
  · refine rs_call (rs_cons (rs_var (d := .lst (ts.map ttD)) rfl (rs_nil (rs_lenL ?_))))
    rw [List.length_map]
  · rintro k r hk ⟨t, x3, rfl, htl, ht0, ht1⟩
    obtain ⟨tt, htt⟩ : ∃ t, ts[k]? = some t := ⟨_, List.getElem?_eq_getElem hk⟩
    obtain ⟨ok1, ok2⟩ := h.ok tt (List.mem_of_getElem? htt)
    have lkd := kd_len ok1
    have hts : ts.take (k + 1) = ts.take k ++ [tt] := take_snoc htt
    have ix : ∀ {Q : D → Prop} {E : Str → List Str → List D → Prop}, Q (ttD tt) → Rs (ixD (.lst (ts.map ttD)) (.int (k : Int))) Q E := fun q => rs_ixL (atI_nat (by rw [List.getElem?_map, htt]; rfl)) q
    show Ss (Lp_l_written_1 [some (.lst (ts.map ttD)), some (lwD ks), some (wD t), some (.int (k : Int))]) _ _ _ _ _
    unfold Lp_l_written_1
    refine ss_seq (ss_cut (fun r => ∃ s : List Nat, s.length ≤ 3 ∧ r = [some (.lst (ts.map ttD)), some (lwD ks), some (wD (t ++ s)), some (.int (k : Int))] ∧ (k = 0 → s = []) ∧ (0 < k → ∃ l, l ≠ Ln.st ∧ (Ln.st :: ks)[k]? = some l ∧ s = sepL l)) ?_ ?_)
    · refine ss_if (rs_T (rs_op (rs_var rfl (rs_c (rs_gt (rs_asB ⟨fun z => ?_, fun z => ?_⟩))))))
      · have z := of_decide_eq_true z
        obtain ⟨k', rfl⟩ : ∃ k', k = k' + 1 := ⟨k - 1, by omega⟩
        obtain ⟨l, hlk⟩ : ∃ l, ks[k']? = some l := ⟨_, List.getElem?_eq_getElem (by omega)⟩
        have hsl : (sepL l).length ≤ 3 := by cases l <;> decide
        refine ss_set (rs_op (rs_var (d := wD t) rfl (rs_op (rs_var (d := lwD ks) rfl (rs_op (rs_var rfl (rs_c (rs_sub (rs_ixL (d := wD (sepL l)) (by rw [show ((k' + 1 : Nat) : Int) - 1 = (k' : Int) by omega]; exact atI_nat (by rw [List.getElem?_map, hlk]; rfl)) ?_)))))))))
        refine rs_addS (Nat.le_trans (show _ ≤ 100000 by omega) sz5) ⟨sepL l, hsl, rfl, fun h => by omega, fun _ => ⟨l, h.nst l (List.mem_of_getElem? hlk), hlk, rfl⟩⟩
      · have z := of_decide_eq_false z
        refine ss_nx ⟨[], by simp, by rw [List.append_nil], fun _ => rfl, fun h => by omega⟩
    rintro _ ⟨s, hsl, rfl, hs0, hs1⟩
    refine ss_seq (ss_set (rs_op (rs_var (d := wD (t ++ s)) rfl (rs_op (rs_op (rs_var rfl (rs_var rfl (ix (rs_c (rs_ixT (d := wD tt.1) (atI_nat (j := 0) rfl) (rs_addS (Nat.le_trans (show _ ≤ 100000 by rw [List.length_append]; omega) sz5) ?_)))))))))))
    have fin : ∀ (w : List Nat), Wd w tt → rdP (spc 32 (t ++ s ++ w)) .st [] [] = some (ts.take (k + 1), (Ln.st :: ks).take (k + 1), .an) := fun w hw => by
      by_cases h0 : k = 0
      · rw [ht0 h0, hs0 h0]
        show rdP (spc 32 w) .st [] [] = _
        rw [rdP_first hw, hts, h0]
        rfl
      · obtain ⟨l, e1, e2, rfl⟩ := hs1 (by omega)
        rw [rdP_more e1 (ht1 (by omega)) hw, hts, take_snoc e2]
    have hmk : ∀ r : Rho, r[0]? = some (some (.lst (ts.map ttD))) → r[3]? = some (some (.int (k : Int))) → ∀ {Q : D → Prop} {E : Str → List Str → List D → Prop}, Q (wD tt.2) → Rs (dOp ixD (dOp ixD (dVar 0) (dVar 3)) (dC (.int 1)) r) Q E := fun r e1 e2 Q E q => rs_op (rs_op (rs_var e1 (rs_var e2 (ix (rs_c (rs_ixT (d := wD tt.2) (atI_nat (j := 1) rfl) q))))))
    refine ss_if (rs_T (rs_op (hmk _ rfl rfl (rs_c (rs_neS (rs_asB ⟨fun z => ?_, fun z => ?_⟩))))))
    · have z : tt.2 ≠ [] := by simpa using z
      have nm : Nm tt.2 := ok2.resolve_left z
      have lmk := nm.2.1
      refine ss_set (rs_op (rs_op (rs_var (d := wD (t ++ s ++ tt.1)) rfl (rs_c (rs_addS (Nat.le_trans (show _ ≤ 100000 by rw [List.length_append, List.length_append]; simp; omega) sz5) (hmk _ rfl rfl (rs_addS (Nat.le_trans (show _ ≤ 100000 by rw [List.length_append, List.length_append, List.length_append]; simp; omega) sz5) ?_)))))))
      refine ⟨t ++ s ++ (tt.1 ++ 46 :: tt.2), some (.int (k : Int)), ?_, ?_, fun h => by omega, fun _ => fin _ (wd_mark ok1 nm)⟩
      · rw [show t ++ s ++ tt.1 ++ [46] ++ tt.2 = t ++ s ++ (tt.1 ++ 46 :: tt.2) by simp]
        rfl
      · simp
        omega
    · have z : tt.2 = [] := by simpa using z
      have e : tt = (tt.1, []) := by rw [← z]
      refine ss_nx ⟨t ++ s ++ tt.1, some (.int (k : Int)), rfl, ?_, fun h => by omega, fun _ => fin _ (by rw [e]; exact wd_kind ok1)⟩
      simp
      omega
  · rintro r ⟨t, x3, rfl, htl, ht0, ht1⟩
    have := ht1 (by omega)
    rw [List.take_length, show ts.length = (Ln.st :: ks).length by rw [List.length_cons]; omega, List.take_length] at this
    exact ss_ret (rs_var (d := wD t) rfl ⟨t, rfl, by omega, readT_of this (by omega)⟩)
theorem free_sp (c : Int) (kn ms : List (List Nat)) (hk : kn.length = 5) (hm : ms.length = 4) (pk : ∀ w ∈ kn, KdOk w) (pm : ∀ w ∈ ms, MkO w) :
    Rs (F_l_free [.int c, .lst (kn.map wD), .lst (ms.map wD)]) (fun d => ∃ ts ks, d = .lst [.lst (ts.map ttD), lwD ks] ∧ Dr ts ks) nE := by
  refine rs_run ?_
  unfold Fb_l_free
  show Ss (seqF _ _ [some (.int c), some (.lst (kn.map wD)), some (.lst (ms.map wD)), none, none, none]) _ _ _ _ _
  refine ss_seq (ss_set (rs_call (rs_cons (rs_var rfl (rs_cons (rs_lst (rs_cons (rs_c (rs_cons (rs_c (rs_cons (rs_c (rs_cons (rs_c (rs_cons (rs_c (rs_cons (rs_c (rs_cons (rs_c (rs_cons (rs_c (rs_cons (rs_c (rs_cons (rs_c (rs_cons (rs_c (rs_cons (rs_c (rs_cons (rs_c (rs_nil ⟨Nat.le_of_ble_eq_true rfl, rs_nil ?_⟩)))))))))))))))))))))))))))))))))
  show Rs (F_l_row [.int c, iL DRP]) _ _
  refine row_of c DRP (by decide) (by decide) fun vs hf => ?_
  obtain ⟨v0, hv0, h00, h01⟩ := hf.get (k := 0) (l := 4) rfl
  obtain ⟨n, rfl⟩ : ∃ n : Nat, v0 = (n : Int) := ⟨v0.toNat, by omega⟩
  have ix : ∀ {k : Nat} {v i : Int} {Q : D → Prop} {E : Str → List Str → List D → Prop}, vs[k]? = some v → i = (k : Int) → Q (.int v) → Rs (ixD (iL vs) (.int i)) Q E := fun h e q => by
    subst e
    exact rs_ixL (atI_nat (by rw [List.getElem?_map, h]; rfl)) q
  refine ss_seq (ss_set (rs_lcS (fun (k : Nat) => D.int (k : Int)) ttD (fun _ _ (t : TT) => KdOk t.1 ∧ MkO t.2) (List.range (n + 1)) (rs_rngC (rs_op (rs_op (rs_var rfl (rs_c (ix hv0 rfl (rs_c (rs_add (by rw [Int.natCast_add]; rfl)))))))) (by omega)) (Nat.le_trans (show _ ≤ 100000 by rw [List.length_range]; omega) sz5) (fun i k hik => ⟨_, rfl, rfl, ?_⟩) fun ts hts hok => ?_))
  · have hk4 : k < 4 := by have := List.mem_range.mp (List.mem_of_getElem? hik); omega
    obtain ⟨d1, d2⟩ := drp_k k hk4
    obtain ⟨v1, hv1, h10, h11⟩ := hf.get d1
    obtain ⟨v2, hv2, h20, h21⟩ := hf.get d2
    obtain ⟨kd, hkd⟩ : ∃ w, kn[v1.toNat]? = some w := ⟨_, List.getElem?_eq_getElem (by omega)⟩
    obtain ⟨mk, hmk⟩ : ∃ w, ms[v2.toNat]? = some w := ⟨_, List.getElem?_eq_getElem (by omega)⟩
    refine rs_tup (rs_cons (rs_op (rs_var rfl (rs_op (rs_var rfl (rs_op (rs_op (rs_c (rs_var (d := .int (k : Int)) rfl (rs_mul (Or.inl (small_of (by omega) (by omega))) (rs_c (rs_add (ix hv1 (by omega) (rs_ixL (d := wD kd) (at_pos h10 (by rw [List.getElem?_map, hkd]; rfl)) ?_))))))))))))))
    refine rs_cons (rs_op (rs_var rfl (rs_op (rs_var rfl (rs_op (rs_op (rs_c (rs_var (d := .int (k : Int)) rfl (rs_mul (Or.inl (small_of (by omega) (by omega))) (rs_c (rs_add (ix hv2 (by omega) (rs_ixL (d := wD mk) (at_pos h20 (by rw [List.getElem?_map, hmk]; rfl)) ?_)))))))))))))
    exact rs_nil ⟨Nat.le_of_ble_eq_true rfl, (kd, mk), rfl, pk _ (List.mem_of_getElem? hkd), pm _ (List.mem_of_getElem? hmk)⟩
  rw [List.length_range] at hts
  refine ss_ret (rs_lst (rs_cons (rs_var (d := .lst (ts.map ttD)) rfl (rs_cons (rs_lcS (fun (k : Nat) => D.int (k : Int)) (fun k : Ln => wD (sepL k)) (fun _ _ (k : Ln) => k ≠ .st) (List.range n) (rs_rngC (rs_op (rs_var rfl (rs_c (ix hv0 rfl rfl)))) (by omega)) (Nat.le_trans (show _ ≤ 100000 by rw [List.length_range]; omega) sz5) (fun i k hik => ⟨_, rfl, rfl, ?_⟩) fun ks hks hok2 => ?_)))))
  · have hk3 : k < 3 := by have := List.mem_range.mp (List.mem_of_getElem? hik); omega
    obtain ⟨v3, hv3, h30, h31⟩ := hf.get (drp_s k hk3)
    refine rs_op (rs_lst (rs_cons (rs_c (rs_cons (rs_c (rs_cons (rs_c (rs_nil ⟨Nat.le_of_ble_eq_true rfl, rs_op (rs_var rfl (rs_op (rs_op (rs_c (rs_var (d := .int (k : Int)) rfl (rs_mul (Or.inl (small_of (by omega) (by omega))) (rs_c (rs_add (ix hv3 (by omega) ?_)))))))))⟩))))))))
    obtain ⟨l, hl1, hl2⟩ : ∃ l, l ≠ Ln.st ∧ atI [D.str (Sg [32]), D.str (Sg [32, 62, 32]), D.str (Sg [32, 43, 32])] v3 = some (wD (sepL l)) := by
      have : v3 = 0 ∨ v3 = 1 ∨ v3 = 2 := by omega
      rcases this with rfl | rfl | rfl
      · exact ⟨.an, by decide, rfl⟩
      · exact ⟨.pa, by decide, rfl⟩
      · exact ⟨.el, by decide, rfl⟩
    exact rs_ixL hl2 ⟨l, rfl, hl1⟩
  rw [List.length_range] at hks
  refine rs_nil ⟨Nat.le_of_ble_eq_true rfl, ts, ks, rfl, by omega, by omega, by omega, fun t ht => ?_, fun k hk => ?_⟩
  · obtain ⟨j, hj, e⟩ := List.getElem_of_mem ht
    exact hok j j t (List.getElem?_range (by omega)) (by rw [List.getElem?_eq_getElem hj, e])
  · obtain ⟨j, hj, e⟩ := List.getElem_of_mem hk
    exact hok2 j j k (List.getElem?_range (by omega)) (by rw [List.getElem?_eq_getElem hj, e])
def LAP : List Int := [60, 4, 3, 12, 3, 2, 3, 12, 3, 2, 3, 12, 3, 2, 3, 12, 3, 2]
theorem lap_at : ∀ k < 4, LAP[4 * k + 2]? = some 3 ∧ LAP[4 * k + 3]? = some 12 ∧ LAP[4 * k + 4]? = some 3 ∧ LAP[4 * k + 5]? = some 2 := by decide
theorem list_ent (T : Tr) (L : List Pl) : listT (dtT (entT T L)) = .ok (.lst (L.map pl)) := by
  unfold listT dtT entT
  rw [List.map_map]
  show Res.ok (D.lst ((L.map fun p => kP p).map tupOf)) = _
  rw [List.map_map]
  congr 2
  refine List.map_congr_left fun p _ => ?_
  show D.tup ((p.map Sum.inl).map keyOf) = _
  rw [List.map_map]
  rfl
theorem aimed_sp (c : Int) {T : Tr} {L : List Pl} (hL : ∀ q k m kk, atT T q = some (.el k m kk) → q ∈ L) (hM : ∀ q ∈ L, ∃ k m kk, atT T q = some (.el k m kk)) (h0 : [] ∈ L) (hn : L.length ≤ 5000) (hT : Tk Nm MkO T) (hb : ∀ q ∈ L, q.length ≤ 5000) :
    Rs (F_l_aimed [.int c, dtT (entT T L)]) (fun d => ∃ ts ks, d = .lst [.lst (ts.map ttD), lwD ks] ∧ Dr ts ks) nE := by
  refine rs_run ?_
  unfold Fb_l_aimed
  show Ss (seqF _ _ [some (.int c), some (dtT (entT T L)), none, none, none, none, none, none, none, none, none, none]) _ _ _ _ _
  refine ss_seq (ss_set (rs_call (rs_cons (rs_var rfl (rs_cons (rs_lst ?_))))))
  array_get_dec
  show Rs (F_l_row [.int c, iL LAP]) _ _
  refine row_of c LAP (by decide) (by decide) fun vs hf => ?_
  have hpos : 0 < L.length := List.length_pos_of_mem h0
  obtain ⟨v0, hv0, h00, h01⟩ := hf.get (k := 0) (l := 60) rfl
  obtain ⟨v1, hv1, h10, h11⟩ := hf.get (k := 1) (l := 4) rfl
  have ix : ∀ {k : Nat} {v i : Int} {Q : D → Prop} {E : Str → List Str → List D → Prop}, vs[k]? = some v → i = (k : Int) → Q (.int v) → Rs (ixD (iL vs) (.int i)) Q E := fun h e q => by
    subst e
    exact rs_ixL (atI_nat (by rw [List.getElem?_map, h]; rfl)) q
  refine ss_seq (ss_set (rs_call (rs_cons (rs_var (d := dtT (entT T L)) rfl (rs_nil (Rs.of (list_ent T L) ?_))))))
  refine ss_seq (ss_set (rs_op (rs_var (d := .lst (L.map pl)) rfl (rs_op (rs_call (rs_cons (rs_op (rs_var rfl (rs_c (ix hv0 rfl (rs_nil (rs_int (rs_call (rs_cons (rs_var (d := .lst (L.map pl)) rfl (rs_nil (rs_lenL (rs_mod (by rw [List.length_map]; omega) ?_))))))))))))))))))
  rw [List.length_map]
  have e0 : 0 ≤ v0 % (L.length : Int) := Int.emod_nonneg _ (by omega)
  have e1 : v0 % (L.length : Int) < L.length := Int.emod_lt_of_pos _ (by omega)
  obtain ⟨p0, hp0⟩ : ∃ p, L[(v0 % (L.length : Int)).toNat]? = some p := ⟨_, List.getElem?_eq_getElem (by omega)⟩
  refine rs_ixL (d := pl p0) (at_pos e0 (by rw [List.getElem?_map, hp0]; rfl)) ?_
  refine ss_seq (ss_set (rs_lst (rs_nil ⟨Nat.zero_le _, ?_⟩)))
  refine ss_seq (ss_set (rs_lst (rs_nil ⟨Nat.zero_le _, ?_⟩)))
  obtain ⟨n, hn'⟩ : ∃ n : Nat, v1 + 1 = (n : Int) := ⟨(v1 + 1).toNat, by omega⟩
  refine ss_seq (ss_cut (fun r => ∃ (ts : List TT) (ks : List Ln) (x4 x7 x8 x9 x10 x11 : Option D), r = [some (.int c), some (dtT (entT T L)), some (iL vs), some (.lst (L.map pl)), x4, some (.lst (ts.map ttD)), some (lwD ks), x7, x8, x9, x10, x11] ∧ (ts.length = ks.length ∨ ts.length = ks.length + 1) ∧ 1 ≤ ts.length ∧ ts.length ≤ 4 ∧ (∀ t ∈ ts, KdOk t.1 ∧ MkO t.2) ∧ ∀ k ∈ ks, k ≠ .st) ?_ ?_)
  · refine ss_rng n (fun k r => ∃ (p : Pl) (ts : List TT) (ks : List Ln) (x7 x8 x9 x10 x11 : Option D), r = [some (.int c), some (dtT (entT T L)), some (iL vs), some (.lst (L.map pl)), some (pl p), some (.lst (ts.map ttD)), some (lwD ks), x7, x8, x9, x10, x11] ∧ p ∈ L ∧ ts.length = k ∧ ks.length = k ∧ (∀ t ∈ ts, KdOk t.1 ∧ MkO t.2) ∧ ∀ k ∈ ks, k ≠ .st) ?_ (by omega) ⟨p0, [], [], none, none, none, none, none, rfl, List.mem_of_getElem? hp0, rfl, rfl, fun t h => (by cases h), fun t h => (by cases h)⟩ ?_ ?_
    · refine rs_op (rs_op (rs_var rfl (rs_c (ix hv1 rfl (rs_c (rs_add ?_))))))
      rw [hn']
    · rintro j r hj ⟨p, ts, ks, x7, x8, x9, x10, x11, rfl, hp, ht, hk, ok1, ok2⟩
      obtain ⟨a2, a3, a4, a5⟩ := lap_at j (by omega)
      obtain ⟨w2, g2', l2, u2⟩ := hf.get a2
      obtain ⟨w3, g3, l3, u3⟩ := hf.get a3
      obtain ⟨w4, g4, l4, u4⟩ := hf.get a4
      obtain ⟨w5, g5, l5, u5⟩ := hf.get a5
      obtain ⟨k, m, kk, hat⟩ := hM p hp
      obtain ⟨tk1, tk2⟩ := hT p k m kk hat
      have hv : vD T p = .tup [wD k, wD m, oPl (eldP T p), .int (kk.length : Int)] := by unfold vD; rw [hat]
      have rw4 : ∀ (b : Nat) {v : Int} (r : Rho) {Q : D → Prop} {E : Str → List Str → List D → Prop}, r[2]? = some (some (iL vs)) → r[7]? = some (some (.int (j : Int))) → vs[4 * j + b]? = some v → Q (.int v) → Rs (dOp ixD (dVar 2) (dOp addD (dOp mulX (dC (.int 4)) (dVar 7)) (dC (.int (b : Int)))) r) Q E := fun b v r Q E e1 e2 e3 q => rs_op (rs_var e1 (rs_op (rs_op (rs_c (rs_var e2 (rs_mul (Or.inl (small_of (by omega) (by omega))) (rs_c (rs_add (ix e3 (by omega) q)))))))))
      show Ss (Lp_l_aimed_1 [some (.int c), some (dtT (entT T L)), some (iL vs), some (.lst (L.map pl)), some (pl p), some (.lst (ts.map ttD)), some (lwD ks), some (.int (j : Int)), x8, x9, x10, x11]) _ _ _ _ _
      unfold Lp_l_aimed_1
      refine ss_seq (ss_asg (rs_op (rs_var (d := dtT (entT T L)) rfl (rs_var (d := pl p) rfl (rs_getTt (keyT_pl p) (ent_get hp) ?_)))))
      rw [hv]
      refine ⟨_, rfl, ?_⟩
      show Ss (seqF _ _ [some (.int c), some (dtT (entT T L)), some (iL vs), some (.lst (L.map pl)), some (pl p), some (.lst (ts.map ttD)), some (lwD ks), some (.int (j : Int)), some (wD k), some (wD m), some (oPl (eldP T p)), some (.int (kk.length : Int))]) _ _ _ _ _
      refine ss_seq (ss_cut (fun r => ∃ k' : List Nat, KdOk k' ∧ r = [some (.int c), some (dtT (entT T L)), some (iL vs), some (.lst (L.map pl)), some (pl p), some (.lst (ts.map ttD)), some (lwD ks), some (.int (j : Int)), some (wD k'), some (wD m), some (oPl (eldP T p)), some (.int (kk.length : Int))]) ?_ ?_)
      · refine ss_if (rs_T (rs_op (rw4 4 _ rfl rfl g4 (rs_c (rs_eqI (rs_asB ⟨fun _ => ss_set (rs_c ⟨[42], .inl rfl, rfl⟩), fun _ => ss_nx ⟨k, .inr tk1, rfl⟩⟩))))))
      rintro _ ⟨k', hk', rfl⟩
      refine ss_seq (ss_cut (fun r => ∃ m' : List Nat, MkO m' ∧ r = [some (.int c), some (dtT (entT T L)), some (iL vs), some (.lst (L.map pl)), some (pl p), some (.lst (ts.map ttD)), some (lwD ks), some (.int (j : Int)), some (wD k'), some (wD m'), some (oPl (eldP T p)), some (.int (kk.length : Int))]) ?_ ?_)
      · refine ss_if (rs_T (rs_op (rw4 5 _ rfl rfl g5 (rs_c (rs_eqI (rs_asB ⟨fun _ => ss_set (rs_c ⟨[], .inl rfl, rfl⟩), fun _ => ss_nx ⟨m, tk2, rfl⟩⟩))))))
      rintro _ ⟨m', hm', rfl⟩
      refine ss_seq (ss_set (rs_op (rs_lst (rs_cons (rs_tup (rs_cons (rs_var (d := wD k') rfl (rs_cons (rs_var (d := wD m') rfl (rs_nil ⟨Nat.le_of_ble_eq_true rfl, rs_nil ⟨Nat.le_of_ble_eq_true rfl, rs_var (d := .lst (ts.map ttD)) rfl (rs_addLL (Nat.le_trans (show _ ≤ 100000 by rw [List.length_map]; simp; omega) sz5) ?_)⟩⟩))))))))))
      have ets : [D.tup [wD k', wD m']] ++ ts.map ttD = ((k', m') :: ts).map ttD := rfl
      rw [ets]
      have ok1' : ∀ t ∈ (k', m') :: ts, KdOk t.1 ∧ MkO t.2 := fun t h => by
        rcases List.mem_cons.mp h with h | h
        · rw [h]; exact ⟨hk', hm'⟩
        · exact ok1 t h
      have ok2' : ∀ l, l ≠ Ln.st → ∀ k ∈ l :: ks, k ≠ .st := fun l hl k h => by
        rcases List.mem_cons.mp h with h | h
        · rw [h]; exact hl
        · exact ok2 k h
      show Ss (ifF _ _ _ [some (.int c), some (dtT (entT T L)), some (iL vs), some (.lst (L.map pl)), some (pl p), some (.lst (((k', m') :: ts).map ttD)), some (lwD ks), some (.int (j : Int)), some (wD k'), some (wD m'), some (oPl (eldP T p)), some (.int (kk.length : Int))]) _ _ _ _ _
      have addL' : ∀ (l : Ln) {Q : D → Prop} {E : Str → List Str → List D → Prop}, Q (lwD (l :: ks)) → Rs (addD (.lst [wD (sepL l)]) (lwD ks)) Q E := fun l Q E q => rs_addLL (Nat.le_trans (show _ ≤ 100000 by rw [List.length_map]; simp; omega) sz5) q
      have fin : ∀ (l : Ln) (q : Pl), l ≠ Ln.st → q ∈ L → ∃ (p' : Pl) (ts' : List TT) (ks' : List Ln) (x7 x8 x9 x10 x11 : Option D), [some (.int c), some (dtT (entT T L)), some (iL vs), some (.lst (L.map pl)), some (pl q), some (.lst (((k', m') :: ts).map ttD)), some (lwD (l :: ks)), some (.int (j : Int)), some (wD k'), some (wD m'), some (oPl (eldP T p)), some (.int (kk.length : Int))] = [some (.int c), some (dtT (entT T L)), some (iL vs), some (.lst (L.map pl)), some (pl p'), some (.lst (ts'.map ttD)), some (lwD ks'), x7, x8, x9, x10, x11] ∧ p' ∈ L ∧ ts'.length = j + 1 ∧ ks'.length = j + 1 ∧ (∀ t ∈ ts', KdOk t.1 ∧ MkO t.2) ∧ ∀ k ∈ ks', k ≠ .st := fun l q hl hq =>
        ⟨q, (k', m') :: ts, l :: ks, _, _, _, _, _, rfl, hq, by rw [List.length_cons, ht], by rw [List.length_cons, hk], ok1', ok2' l hl⟩
      refine ss_if (rs_and (rs_T (rs_op (rw4 2 _ rfl rfl g2' (rs_c (rs_eqI (rs_asB (rs_T (rs_op (rs_var (d := oPl (eldP T p)) rfl (rs_c (rs_isn (rs_asB ⟨fun z => ?_, fun z => ?_⟩)))))))))))))
      · rw [Bool.and_eq_true] at z
        cases he : eldP T p with
        | none => rw [he] at z; exact absurd z.2 (by decide)
        | some q =>
          have hq : q ∈ L := by obtain ⟨k', m', kk', h⟩ := eldP_el he; exact hL q _ _ _ h
          rw [he] at fin
          refine ss_seq (ss_set (rs_op (rs_lst (rs_cons (rs_c (rs_nil ⟨Nat.le_of_ble_eq_true rfl, rs_var (d := lwD ks) rfl (addL' .el ?_)⟩))))))
          exact ss_set (rs_var (d := pl q) rfl (fin .el q (by decide) hq))
      · refine ss_if (rs_T (rs_op (rs_var (d := pl p) rfl (rs_tup (rs_nil ⟨Nat.zero_le _, rs_eqPl (q := []) (rs_asB ⟨fun z => ?_, fun z => ?_⟩)⟩)))))
        · exact ss_bk ⟨(k', m') :: ts, ks, _, _, _, _, _, _, rfl, .inr (by rw [List.length_cons, ht, hk]), by rw [List.length_cons]; omega, by rw [List.length_cons]; omega, ok1', ok2⟩
        · have hne : p ≠ [] := by simpa using z
          refine ss_if (rs_T (rs_op (rw4 2 _ rfl rfl g2' (rs_c (rs_eqI (rs_asB ⟨fun _ => ?_, fun _ => ?_⟩))))))
          · obtain ⟨q, x, hqx⟩ : ∃ q x, p = q ++ [x] := ⟨p.dropLast, p.getLast hne, (List.dropLast_concat_getLast hne).symm⟩
            have hq : q ∈ L := by rw [hqx] at hat; obtain ⟨k', m', kk', h⟩ := pre_el hat; exact hL q _ _ _ h
            refine ss_seq (ss_set (rs_op (rs_lst (rs_cons (rs_c (rs_nil ⟨Nat.le_of_ble_eq_true rfl, rs_var (d := lwD ks) rfl (addL' .pa ?_)⟩))))))
            refine ss_set (rs_sl (rs_var (d := pl p) rfl (rs_noP (rs_part (rs_un (rs_c (rs_neg (rs_asI (rs_slT ?_)))))))))
            have ec : D.tup (cutL (p.map D.int) none (some (-1))) = pl q := by
              rw [hqx, List.map_append]
              show D.tup (cutL (q.map D.int ++ [D.int x]) none (some (-1))) = _
              rw [cut_init]
              rfl
            rw [ec]
            exact fin .pa q (by decide) hq
          · have hlen : 0 < p.length := List.length_pos_iff.mpr hne
            have f0 : 0 ≤ w3 % (p.length : Int) := Int.emod_nonneg _ (by omega)
            obtain ⟨a, ha⟩ : ∃ a : Nat, w3 % (p.length : Int) = (a : Int) := ⟨(w3 % (p.length : Int)).toNat, by omega⟩
            have hq : p.take a ∈ L := by
              have : p = p.take a ++ p.drop a := (List.take_append_drop _ _).symm
              rw [this] at hat
              obtain ⟨k', m', kk', h⟩ := pre_el hat
              exact hL _ _ _ _ h
            refine ss_seq (ss_set (rs_op (rs_lst (rs_cons (rs_c (rs_nil ⟨Nat.le_of_ble_eq_true rfl, rs_var (d := lwD ks) rfl (addL' .an ?_)⟩))))))
            refine ss_set (rs_sl (rs_var (d := pl p) rfl (rs_noP (rs_part (rs_op (rs_call (rs_cons (rw4 3 _ rfl rfl g3 (rs_nil (rs_int (rs_call (rs_cons (rs_var (d := pl p) rfl (rs_nil (rs_lenT (rs_mod (by rw [List.length_map]; omega) ?_))))))))))))))))
            rw [List.length_map, ha]
            refine rs_asI (rs_slT ?_)
            rw [cut_take, ← List.map_take]
            exact fin .an (p.take a) (by decide) hq
    · rintro r ⟨p, ts, ks, x7, x8, x9, x10, x11, rfl, hp, ht, hk, ok1, ok2⟩
      exact ⟨ts, ks, _, _, _, _, _, _, rfl, .inl (by rw [ht, hk]), by omega, by omega, ok1, ok2⟩
  · rintro _ ⟨ts, ks, x4, x7, x8, x9, x10, x11, rfl, hlen, h1, h4, ok1, ok2⟩
    refine ss_ret (rs_lst (rs_cons (rs_var (d := .lst (ts.map ttD)) rfl (rs_cons (rs_sl (rs_var (d := lwD ks) rfl (rs_part (rs_op (rs_op (rs_call (rs_cons (rs_var (d := lwD ks) rfl (rs_nil (rs_lenL (rs_call (rs_cons (rs_var (d := .lst (ts.map ttD)) rfl (rs_nil (rs_lenL (rs_sub (rs_c (rs_add (rs_asI (rs_noP (rs_slL ?_)))))))))))))))))))))))))
    rw [List.length_map, List.length_map]
    rcases hlen with e | e
    · rw [show (ks.length : Int) - (ts.length : Int) + 1 = ((1 : Nat) : Int) by omega, cut_drop, ← List.map_drop]
      exact rs_nil ⟨Nat.le_of_ble_eq_true rfl, ts, ks.drop 1, rfl, h1, h4, by rw [List.length_drop]; omega, ok1, fun k hk => ok2 k (List.mem_of_mem_drop hk)⟩
    · rw [show (ks.length : Int) - (ts.length : Int) + 1 = ((0 : Nat) : Int) by omega, cut_drop, List.drop_zero]
      exact rs_nil ⟨Nat.le_of_ble_eq_true rfl, ts, ks, rfl, h1, h4, by omega, ok1, ok2⟩
end
section
theorem rs_callO {n : Str} {F : List D → Res D} {f1 : Rho → Res D} {fs : Rho → Res (List D)} {r : Rho} {ns : List Str} {vs : List D} {Q : D → Prop} {E : Str → List Str → List D → Prop} (h1 : Rs (f1 r) (fun x => x = .obj n ns vs) E) (h : Rs (fs r) (fun ds => Rs (F (.obj n ns vs :: ds)) Q E) E) : Rs (dCallO n F f1 fs r) Q E := Rs.bind (h1.impE (fun x e => by
  subst e
  rw [if_pos isCls_self]
  exact Rs.bind h) fun _ _ _ z => z)
theorem right_eq {T : Tr} {L : List Pl} {t : List Nat} {ts : List TT} {ks : List Ln} (hL : ∀ q k m kk, atT T q = some (.el k m kk) → q ∈ L) (hM : ∀ q ∈ L, ∃ k m kk, atT T q = some (.el k m kk)) (hb : ∀ q ∈ L, q.length ≤ 5000) (hD : Dr ts ks) (ps : List Pl) (hps : ∀ p ∈ ps, p ∈ L) :
    F_l_right [ptD ⟨t, ts, .st :: ks⟩, tD T, dtT (entT T L), .lst [.lst (ts.map ttD), lwD ks], .lst (ps.map pl)] = .ok (.bl true) := Rs.eq (by
  have hlen := hD.len
  have h1 := hD.one
  have h4 := hD.four
  have hP : PtOk ⟨t, ts, .st :: ks⟩ := ⟨by show ts.length = ks.length + 1; exact hlen, h1, h4⟩
  refine rs_run ?_
  unfold Fb_l_right
  show Ss (seqF _ _ [some (ptD ⟨t, ts, .st :: ks⟩), some (tD T), some (dtT (entT T L)), some (.lst [.lst (ts.map ttD), lwD ks]), some (.lst (ps.map pl)), none, none]) _ _ _ _ _
  refine ss_seq (ss_each pl ps (fun i r => ∃ x5 x6, r = [some (ptD ⟨t, ts, .st :: ks⟩), some (tD T), some (dtT (entT T L)), some (.lst [.lst (ts.map ttD), lwD ks]), some (.lst (ps.map pl)), x5, x6]) (rs_var rfl rfl) ⟨none, none, rfl⟩ ?_ ?_)
  · rintro i p r hip ⟨x5, x6, rfl⟩
    have hp := hps p (List.mem_of_getElem? hip)
    obtain ⟨k, m, kk, hat⟩ := hM p hp
    show Ss (Lp_l_right_1 [some (ptD ⟨t, ts, .st :: ks⟩), some (tD T), some (dtT (entT T L)), some (.lst [.lst (ts.map ttD), lwD ks]), some (.lst (ps.map pl)), some (pl p), x6]) _ _ _ _ _
    unfold Lp_l_right_1
    refine ss_seq (ss_set (rs_callO (rs_var rfl rfl) (rs_cons (rs_var (d := tD T) rfl (rs_cons (rs_var (d := pl p) rfl (rs_nil (Rs.of (call_ok hP rfl hat) ?_))))))))
    show Ss (seqF _ _ [some (ptD ⟨t, ts, .st :: ks⟩), some (tD T), some (dtT (entT T L)), some (.lst [.lst (ts.map ttD), lwD ks]), some (.lst (ps.map pl)), some (pl p), some (.bl (fit T ts (.st :: ks) (ts.length - 1) p))]) _ _ _ _ _
    refine ss_seq (ss_if (rs_not (rs_T (rs_un (rs_var rfl (rs_isi_bl_bool (rs_asB ⟨fun z => (by cases z), fun _ => ss_nx ?_⟩)))))))
    refine ss_if (rs_T (rs_op (rs_var rfl (rs_call (rs_cons (rs_var (d := dtT (entT T L)) rfl (rs_cons (rs_op (rs_var rfl (rs_c (rs_ixL (d := .lst (ts.map ttD)) (atI_nat (j := 0) rfl) ?_)))))))))))
    refine rs_cons (rs_op (rs_var rfl (rs_c (rs_ixL (d := lwD ks) (atI_nat (j := 1) rfl) ?_))))
    refine rs_cons (rs_var (d := pl p) rfl (rs_cons (rs_op (rs_call (rs_cons (rs_op (rs_var rfl (rs_c (rs_ixL (d := .lst (ts.map ttD)) (atI_nat (j := 0) rfl) (rs_nil (rs_lenL (rs_c (rs_sub ?_)))))))))))))
    rw [List.length_map, show (ts.length : Int) - 1 = ((ts.length - 1 : Nat) : Int) by omega]
    refine rs_nil (Rs.of (fits_eq hL hM (fun q hq => by have := hb q hq; omega) hD.nst hlen (ts.length - 1) 5 p (by omega) (by omega) hp) (rs_neB (rs_asB ⟨fun z => ?_, fun _ => ss_nx ⟨_, _, rfl⟩⟩)))
    simp at z
  · rintro r ⟨x5, x6, rfl⟩
    exact ss_ret (rs_c rfl))
theorem no_place_eq {T : Tr} {P : Pt} {p : Pl} (hP : PtOk P) (h : ∀ k m ks, atT T p ≠ some (.el k m ks)) (hl : p.length ≤ 10000) : F_l_no_place [ptD P, tD T, pl p] = .ok (.bl true) := Rs.eq (by
  refine rs_run ?_
  unfold Fb_l_no_place
  show Ss (seqF _ _ [some (ptD P), some (tD T), some (pl p), none]) _ _ _ _ _
  refine ss_seq (ss_try (ss_drop (rs_callO (rs_var rfl rfl) (rs_cons (rs_var (d := tD T) rfl (rs_cons (rs_var (d := pl p) rfl (rs_nil (Rs.ofE (call_no hP h) ⟨by decide +kernel, ?_⟩)))))))))
  show Ss (seqF _ _ [some (ptD P), some (tD T), some (pl p), some (.obj "NoPlace" ["place"] [pl p])]) _ _ _ _ _
  refine ss_seq (ss_if (rs_or (rs_T (rs_isX rfl (by decide +kernel : isM_BadPattern "NoPlace" = some false) (rs_asB (rs_or (rs_not (rs_T (rs_isX rfl (by decide +kernel : isM_LaidError "NoPlace" = some true) (rs_asB (rs_not (rs_T (rs_isX rfl (by decide +kernel : isM_ValueError "NoPlace" = some true) (rs_asB ⟨fun z => (by cases z), fun _ => ss_nx ?_⟩))))))))))))))
  refine ss_ret (rs_andV (rs_un (rs_xf rfl (d := pl p) rfl (rs_isi_tup_tuple (rs_asB (rs_op (rs_xf rfl (d := pl p) rfl (rs_var (d := pl p) rfl (rs_eqPl (rs_asB ?_))))))))))
  simp)
theorem cut_map {α β : Type} (f : α → β) (xs : List α) (lo hi : Option Int) : cutL (xs.map f) lo hi = (cutL xs lo hi).map f := by
  unfold cutL
  rw [List.length_map, List.map_take, List.map_drop]
theorem cut_mem {α : Type} {xs : List α} {lo hi : Option Int} {x : α} (h : x ∈ cutL xs lo hi) : x ∈ xs := List.mem_of_mem_drop (List.mem_of_mem_take h)
/-- no element stands there -/
def NoEl (T : Tr) (q : Pl) : Prop := (∀ k m ks, atT T q ≠ some (.el k m ks)) ∧ q.length ≤ 5000
def manyT (T : Tr) (q : Pl) : Nat := match atT T q with
  | some (.el _ _ kk) => kk.length
  | _ => 0
theorem noel_many {T : Tr} {q : Pl} {k m : List Nat} {kk : List Tr} (h : atT T q = some (.el k m kk)) (hq : q.length ≤ 100) : NoEl T (q ++ [(manyT T q : Int)]) := by
  refine ⟨fun k' m' ks' z => ?_, by rw [List.length_append, List.length_singleton]; omega⟩
  rw [atT_snoc, h] at z
  have z : stepT (.el k m kk) (manyT T q : Int) = some (.el k' m' ks') := z
  rw [stepT_el, if_pos (by omega), Int.toNat_natCast] at z
  have e : manyT T q = kk.length := by unfold manyT; rw [h]
  rw [e, List.getElem?_eq_none (Nat.le_refl _)] at z
  cases z
theorem noel_tx {T : Tr} {q : Pl} {l : List Nat} (h : atT T q = some (.tx l)) (hq : q.length ≤ 100) : NoEl T q ∧ NoEl T (q ++ [0]) := by
  refine ⟨⟨fun k m ks z => ?_, by omega⟩, fun k m ks z => ?_, by rw [List.length_append, List.length_singleton]; omega⟩
  · rw [h] at z; cases z
  · rw [atT_snoc, h] at z; cases z
theorem law_true (ns : List Int) (hl : ns.length ≤ 63) : F_law [.fz (ns.map D.int)] = .ok (.bl true) := Rs.eq (by
  have cell : ∀ (k : Nat) {Q : D → Prop} {E : Str → List Str → List D → Prop}, k ≤ 1000 → (∀ z, Q (.int z)) → Rs (F_l_cell [.fz (ns.map D.int), .int (k : Int)]) Q E := fun k {Q E} hk q => (cell_sp ns k hk).impE (fun d ⟨z, e⟩ => by rw [e]; exact q z) fun _ _ _ z => z.elim
  refine rs_run ?_
  unfold Fb_law
  show Ss (seqF _ _ [some (.fz (ns.map D.int)), none, none, none, none, none, none, none, none, none, none, none, none, none, none, none]) _ _ _ _ _
  refine ss_seq (ss_set (rs_call (rs_cons (rs_call (rs_cons (rs_var rfl (rs_cons (rs_c (rs_nil (cell 0 (by omega) fun c0 => rs_cons (rs_c (rs_nil ?_))))))))))))
  refine (names_sp c0 6 (by omega)).impE ?_ fun _ _ _ z => z.elim
  rintro _ ⟨ws, rfl, hws, hnm⟩
  match ws, hws, hnm with
  | [w0, w1, w2, w3, w4, w5], _, hnm =>
  have n0 : Nm w0 := hnm _ (by simp)
  have n1 : Nm w1 := hnm _ (by simp)
  have n2 : Nm w2 := hnm _ (by simp)
  have n3 : Nm w3 := hnm _ (by simp)
  have n4 : Nm w4 := hnm _ (by simp)
  have n5 : Nm w5 := hnm _ (by simp)
  have pm : ∀ w ∈ [[], w4, w0, w5], MkO w := fun w hw => by
    simp only [List.mem_cons, List.not_mem_nil, or_false] at hw
    rcases hw with rfl | rfl | rfl | rfl
    · exact .inl rfl
    · exact .inr n4
    · exact .inr n0
    · exact .inr n5
  refine ss_seq (ss_set (rs_lst (rs_cons (rs_c (rs_cons (rs_op (rs_var rfl (rs_c (rs_ixL (d := wD w4) (atI_nat (j := 4) rfl) ?_)))))))))
  refine rs_cons (rs_op (rs_var rfl (rs_c (rs_ixL (d := wD w0) (atI_nat (j := 0) rfl) (rs_cons (rs_op (rs_var rfl (rs_c (rs_ixL (d := wD w5) (atI_nat (j := 5) rfl) ?_)))))))))
  refine rs_nil ⟨Nat.le_of_ble_eq_true rfl, ?_⟩
  refine ss_seq (ss_set (rs_call (rs_cons (rs_call (rs_cons (rs_var rfl (rs_cons (rs_c (rs_nil (cell 1 (by omega) fun c1 => rs_cons (rs_sl (rs_var rfl (rs_noP (rs_part (rs_c (rs_asI (rs_slL ?_)))))))))))))))))
  refine rs_cons (rs_var rfl (rs_nil ?_))
  show Rs (F_l_tree [.int c1, .lst ([w0, w1, w2].map wD), .lst ([[], w4, w0, w5].map wD)]) _ _
  refine (tree_sp c1 [w0, w1, w2] [[], w4, w0, w5] (PK := Nm) (PM := MkO) rfl rfl (fun w hw => by
    simp only [List.mem_cons, List.not_mem_nil, or_false] at hw
    rcases hw with rfl | rfl | rfl
    · exact n0
    · exact n1
    · exact n2) pm (.inl rfl)).impE ?_ fun _ _ _ z => z.elim
  rintro _ ⟨k, m, kk, rfl, hsz, htk⟩
  have hTd : tD (.el k m kk) = .tup [wD k, wD m, .tup (kk.map tD)] := tD_el _ _ _
  have hszk : sz (.el k m kk) = 1 + szs kk := by rw [sz]
  have hkk := len_szs kk
  have mD : D.lst ([[], w4, w0, w5].map wD) = .lst [wD [], wD w4, wD w0, wD w5] := rfl
  show Ss (seqF _ _ [some (.fz (ns.map D.int)), some (.lst ([w0, w1, w2, w3, w4, w5].map wD)), some (.lst ([[], w4, w0, w5].map wD)), some (tD (.el k m kk)), none, none, none, none, none, none, none, none, none, none, none, none]) _ _ _ _ _
  have vT : ∀ (r : Rho) {Q : D → Prop} {E : Str → List Str → List D → Prop}, r[3]? = some (some (tD (.el k m kk))) → Q (.tup [wD k, wD m, .tup (kk.map tD)]) → Rs (dVar 3 r) Q E := fun r Q E e q => rs_var e (by rw [hTd]; exact q)
  refine ss_seq (ss_set (rs_call (rs_cons (rs_op (vT _ rfl (rs_c (rs_ixT (d := .tup (kk.map tD)) (atI_nat (j := 2) rfl) (rs_nil (rs_lenT ?_)))))))))
  rw [List.length_map]
  refine ss_seq (ss_set (rs_tup (rs_cons (rs_op (vT _ rfl (rs_c (rs_ixT (d := wD k) (atI_nat (j := 0) rfl) (rs_cons (rs_op (vT _ rfl (rs_c (rs_ixT (d := wD m) (atI_nat (j := 1) rfl) (rs_cons ?_)))))))))))))
  refine rs_call (rs_cons (rs_lc (fun (j : Nat) => D.int (j : Int)) (fun j => tD (kk.getD (kk.length - 1 - j) (.tx []))) (List.range kk.length) (rs_rngC (rs_var rfl rfl) (by omega)) (Nat.le_trans (show _ ≤ 100000 by rw [List.length_range]; omega) sz5) (fun j hj => ⟨_, rfl, rfl, ?_⟩) ?_))
  · have hj := List.mem_range.mp hj
    refine rs_op (rs_op (vT _ rfl (rs_c (rs_ixT (d := .tup (kk.map tD)) (atI_nat (j := 2) rfl) (rs_op (rs_op (rs_var rfl (rs_c (rs_sub (rs_var (d := .int (j : Int)) rfl (rs_sub ?_)))))))))))
    refine rs_ixT (at_pos (by omega) ?_) rfl
    rw [show ((kk.length : Int) - 1 - (j : Int)).toNat = kk.length - 1 - j by omega, List.getElem?_map, List.getD_eq_getElem?_getD, List.getElem?_eq_getElem (by omega)]
    rfl
  have erev : (List.range kk.length).map (fun j => tD (kk.getD (kk.length - 1 - j) (.tx []))) = kk.reverse.map tD := by
    refine List.ext_getElem (by simp) fun i h1 h2 => ?_
    simp at h1 h2
    rw [List.getElem_map, List.getElem_map, List.getElem_range, List.getElem_reverse, List.getD_eq_getElem?_getD, List.getElem?_eq_getElem (by omega)]
    rfl
  rw [erev]
  refine rs_nil (rs_tupL (rs_nil ⟨Nat.le_of_ble_eq_true rfl, ?_⟩))
  have hTr : D.tup [wD k, wD m, .tup (kk.reverse.map tD)] = tD (.el k m kk.reverse) := (tD_el _ _ _).symm
  rw [hTr]
  have hszr : sz (.el k m kk.reverse) = sz (.el k m kk) := by rw [sz, sz, szs_sum, szs_sum, List.map_reverse, List.sum_reverse]
  generalize hT2 : Tr.el k m kk.reverse = T2 at hszr
  generalize hT1 : Tr.el k m kk = T at *
  show Ss (seqF _ _ [some (.fz (ns.map D.int)), some (.lst ([w0, w1, w2, w3, w4, w5].map wD)), some (.lst ([[], w4, w0, w5].map wD)), some (tD T), some (.int (kk.length : Int)), some (tD T2), none, none, none, none, none, none, none, none, none, none]) _ _ _ _ _
  refine ss_seq (ss_asg (rs_call (rs_cons (rs_var (d := tD T) rfl (rs_nil ?_)))))
  refine (nodes_sp T (by omega)).impE ?_ fun _ _ _ z => z.elim
  rintro _ ⟨L, X, rfl, hN⟩
  refine ⟨_, rfl, ?_⟩
  show Ss (seqF _ _ [some (.fz (ns.map D.int)), some (.lst ([w0, w1, w2, w3, w4, w5].map wD)), some (.lst ([[], w4, w0, w5].map wD)), some (tD T), some (.int (kk.length : Int)), some (tD T2), none, some (dtT (entT T L)), some (.lst (X.map pl)), none, none, none, none, none, none, none]) _ _ _ _ _
  refine ss_seq (ss_set (rs_op (rs_call (rs_cons (rs_var (d := tD T2) rfl (rs_nil ?_))))))
  refine (nodes_sp T2 (by omega)).impE ?_ fun _ _ _ z => z.elim
  rintro _ ⟨L2, X2, rfl, hN2⟩
  refine rs_c (rs_ixL (d := dtT (entT T2 L2)) (atI_nat (j := 0) rfl) ?_)
  have covL : ∀ {T : Tr} {L X : List Pl}, Nd T L X [] → ∀ q k m kk, atT T q = some (.el k m kk) → q ∈ L := fun h q k m kk hq => by
    rcases h.cov q k m kk hq with z | ⟨x, hx, _⟩
    · exact z
    · cases hx
  have hL := covL hN
  have hL2 := covL hN2
  have hlenL : ∀ {T : Tr} {L X : List Pl}, Nd T L X [] → sz T ≤ 100 → L.length ≤ 100 ∧ ∀ q ∈ L, q.length ≤ 100 := fun {T L X} h hs => ⟨by have := h.siz; simp [szW] at this; omega, fun q hq => by
    obtain ⟨k, m, kk, hat⟩ := h.met q hq
    have := at_len q T _ hat
    omega⟩
  obtain ⟨l1, l2⟩ := hlenL hN (by omega)
  obtain ⟨l3, l4⟩ := hlenL hN2 (by omega)
  have hXl : X.length ≤ 100 := by have := hN.siz; simp [szW] at this; omega
  have hXq : ∀ q ∈ X, q.length ≤ 100 := fun q hq => by
    obtain ⟨l, hat⟩ := hN.txt q hq
    have := at_len q T _ hat
    omega
  refine ss_seq (ss_set (rs_call (rs_cons (rs_var (d := dtT (entT T L)) rfl (rs_nil (Rs.of (list_ent T L) ?_))))))
  show Ss (seqF _ _ [some (.fz (ns.map D.int)), some (.lst ([w0, w1, w2, w3, w4, w5].map wD)), some (.lst ([[], w4, w0, w5].map wD)), some (tD T), some (.int (kk.length : Int)), some (tD T2), none, some (dtT (entT T L)), some (.lst (X.map pl)), some (dtT (entT T2 L2)), some (.lst (L.map pl)), none, none, none, none, none]) _ _ _ _ _
  have e3 : cutL (L.map pl) none (some (3 : Int)) = (L.take 3).map pl := by rw [show (3 : Int) = ((3 : Nat) : Int) from rfl, cut_take, List.map_take]
  have e2 : cutL (X.map pl) none (some (2 : Int)) = (X.take 2).map pl := by rw [show (2 : Int) = ((2 : Nat) : Int) from rfl, cut_take, List.map_take]
  refine ss_seq (ss_cut (fun r => ∃ N : List Pl, (∀ q ∈ N, NoEl T q) ∧ N.length ≤ 200 ∧ r = [some (.fz (ns.map D.int)), some (.lst ([w0, w1, w2, w3, w4, w5].map wD)), some (.lst ([[], w4, w0, w5].map wD)), some (tD T), some (.int (kk.length : Int)), some (tD T2), none, some (dtT (entT T L)), some (.lst (X.map pl)), some (dtT (entT T2 L2)), some (.lst (L.map pl)), some (.lst (N.map pl)), none, none, none, none]) ?_ ?_)
  · refine ss_set (rs_op (rs_lc pl (fun q => pl (q ++ [(manyT T q : Int)])) (L.take 3) (rs_it (rs_sl (rs_var (d := .lst (L.map pl)) rfl (rs_noP (rs_part (rs_c (rs_asI (rs_slL ?_)))))))) (Nat.le_trans (show _ ≤ 100000 by rw [List.length_take]; omega) sz5) (fun q hq => ⟨_, rfl, rfl, ?_⟩) ?_))
    · rw [e3]; rfl
    · have hq := List.mem_of_mem_take hq
      obtain ⟨k', m', kk', hat⟩ := hN.met q hq
      have hv : vD T q = .tup [wD k', wD m', oPl (eldP T q), .int (kk'.length : Int)] := by unfold vD; rw [hat]
      have hm : manyT T q = kk'.length := by unfold manyT; rw [hat]
      have hql := l2 q hq
      refine rs_op (rs_var (d := pl q) rfl (rs_tup (rs_cons (rs_op (rs_op (rs_var (d := dtT (entT T L)) rfl (rs_var (d := pl q) rfl (rs_getTt (keyT_pl q) (ent_get hq) ?_))))))))
      rw [hv]
      refine rs_c (rs_ixT (d := .int (kk'.length : Int)) (atI_nat (j := 3) rfl) (rs_nil ⟨Nat.le_of_ble_eq_true rfl, rs_addT (Nat.le_trans (show _ ≤ 100000 by rw [List.length_map]; simp; omega) sz5) ?_⟩))
      rw [hm]
      show D.tup (q.map D.int ++ [D.int (kk'.length : Int)]) = D.tup ((q ++ [(kk'.length : Int)]).map D.int)
      rw [List.map_append]
      rfl
    · refine rs_var (d := .lst (X.map pl)) rfl (rs_addLO (Nat.le_trans (show _ ≤ 100000 by rw [List.length_map, List.length_map, List.length_take]; omega) sz5) ?_)
      refine ⟨((L.take 3).map fun q => q ++ [(manyT T q : Int)]) ++ X, fun q hq => ?_, by rw [List.length_append, List.length_map, List.length_take]; omega, ?_⟩
      · rcases List.mem_append.mp hq with hq | hq
        · obtain ⟨q', hq', rfl⟩ := List.mem_map.mp hq
          have hq' := List.mem_of_mem_take hq'
          obtain ⟨k', m', kk', hat⟩ := hN.met q' hq'
          exact noel_many hat (l2 q' hq')
        · obtain ⟨l, hat⟩ := hN.txt q hq
          exact (noel_tx hat (hXq q hq)).1
      · rw [List.map_append, List.map_map]
        rfl
  rintro _ ⟨N, hNo, hNl, rfl⟩
  refine ss_seq (ss_each pl (X.take 2) (fun i r => ∃ (N : List Pl) (x12 : Option D), (∀ q ∈ N, NoEl T q) ∧ N.length ≤ 200 + i ∧ r = [some (.fz (ns.map D.int)), some (.lst ([w0, w1, w2, w3, w4, w5].map wD)), some (.lst ([[], w4, w0, w5].map wD)), some (tD T), some (.int (kk.length : Int)), some (tD T2), none, some (dtT (entT T L)), some (.lst (X.map pl)), some (dtT (entT T2 L2)), some (.lst (L.map pl)), some (.lst (N.map pl)), x12, none, none, none]) ?_ ⟨N, none, hNo, by omega, rfl⟩ ?_ ?_)
  · exact rs_sl (rs_var (d := .lst (X.map pl)) rfl (rs_noP (rs_part (rs_c (rs_asI (rs_slL (by rw [e2])))))))
  · rintro i q r hq ⟨N, x12, hNo, hNl, rfl⟩
    have hi := (List.getElem?_eq_some_iff.mp hq).1
    rw [List.length_take] at hi
    have hq := List.mem_of_mem_take (List.mem_of_getElem? hq)
    obtain ⟨l, hat⟩ := hN.txt q hq
    have hql := hXq q hq
    unfold Lp_law_1
    refine ss_app (ds := N.map pl) rfl (rs_op (rs_var (d := pl q) rfl (rs_tup (rs_cons (rs_c (rs_nil ⟨Nat.le_of_ble_eq_true rfl, rs_addT (Nat.le_trans (show _ ≤ 100000 by rw [List.length_map]; simp; omega) sz5) ?_⟩))))))
    refine ⟨Nat.lt_of_lt_of_le (show _ < 100000 by rw [List.length_map]; omega) sz5, N ++ [q ++ [0]], some (pl q), fun q' hq' => ?_, by rw [List.length_append, List.length_singleton]; omega, ?_⟩
    · rcases List.mem_append.mp hq' with h | h
      · exact hNo q' h
      · rw [List.mem_singleton.mp h]; exact (noel_tx hat hql).2
    · rw [List.map_append, List.map_singleton]
      have : pl (q ++ [0]) = D.tup (q.map D.int ++ [D.int 0]) := by unfold pl; rw [List.map_append]; rfl
      rw [this]
      rfl
  rintro _ ⟨N, x12, hNo, hNl, rfl⟩
  rw [List.length_take] at hNl
  have hroot : [] ∈ L := hL [] k m kk (by rw [← hT1]; simp [atT])
  have hbL : ∀ q ∈ L, q.length ≤ 5000 := fun q hq => by have := l2 q hq; omega
  refine ss_seq (ss_set (rs_lst (rs_cons (rs_call (rs_cons (rs_call (rs_cons (rs_var rfl (rs_cons (rs_c (rs_nil (cell 2 (by omega) fun c2 => rs_cons (rs_var (d := dtT (entT T L)) rfl (rs_nil ?_))))))))))))))
  refine (aimed_sp c2 hL hN.met hroot (by omega) htk hbL).impE ?_ fun _ _ _ z => z.elim
  rintro _ ⟨ta, ka, rfl, hDa⟩
  refine rs_cons (rs_call (rs_cons (rs_call (rs_cons (rs_var rfl (rs_cons (rs_c (rs_nil (cell 3 (by omega) fun c3 => rs_cons (rs_var (d := dtT (entT T L)) rfl (rs_nil ?_)))))))))))
  refine (aimed_sp c3 hL hN.met hroot (by omega) htk hbL).impE ?_ fun _ _ _ z => z.elim
  rintro _ ⟨tb, kb, rfl, hDb⟩
  refine rs_nil ⟨Nat.le_of_ble_eq_true rfl, ?_⟩
  refine ss_seq (ss_app (ds := [.lst [.lst (ta.map ttD), lwD ka], .lst [.lst (tb.map ttD), lwD kb]]) rfl (rs_call (rs_cons (rs_call (rs_cons (rs_var rfl (rs_cons (rs_c (rs_nil (cell 4 (by omega) fun c4 => rs_cons (rs_op (rs_sl (rs_var rfl (rs_noP (rs_part (rs_c (rs_asI (rs_slL ?_))))))))))))))))))
  refine rs_lst (rs_cons (rs_c (rs_nil ⟨Nat.le_of_ble_eq_true rfl, rs_addLL (Nat.le_of_ble_eq_true rfl) (rs_cons (rs_var rfl (rs_nil ?_)))⟩)))
  show Rs (F_l_free [.int c4, .lst ([w0, w1, w2, w3, [42]].map wD), .lst ([[], w4, w0, w5].map wD)]) _ _
  refine (free_sp c4 [w0, w1, w2, w3, [42]] [[], w4, w0, w5] rfl rfl (fun w hw => by
    simp only [List.mem_cons, List.not_mem_nil, or_false] at hw
    rcases hw with rfl | rfl | rfl | rfl | rfl
    · exact .inr n0
    · exact .inr n1
    · exact .inr n2
    · exact .inr n3
    · exact .inl rfl) pm).impE ?_ fun _ _ _ z => z.elim
  rintro _ ⟨tc, kc, rfl, hDc⟩
  refine ⟨Nat.lt_of_lt_of_le (show 2 < 100000 by omega) sz5, ?_⟩
  refine ss_seq (ss_for (fun _ r => ∃ (x12 x14 x15 : Option D), r = [some (.fz (ns.map D.int)), some (.lst ([w0, w1, w2, w3, w4, w5].map wD)), some (.lst ([[], w4, w0, w5].map wD)), some (tD T), some (.int (kk.length : Int)), some (tD T2), none, some (dtT (entT T L)), some (.lst (X.map pl)), some (dtT (entT T2 L2)), some (.lst (L.map pl)), some (.lst (N.map pl)), x12, some (.lst [.lst [.lst (ta.map ttD), lwD ka], .lst [.lst (tb.map ttD), lwD kb], .lst [.lst (tc.map ttD), lwD kc]]), x14, x15]) (rs_it (rs_var rfl (rs_itsL ⟨⟨_, _, _, rfl⟩, ?_, ?_⟩))))
  · rintro i d r hd ⟨x12, x14, x15, rfl⟩
    have hd : ∃ ts ks, d = .lst [.lst (ts.map ttD), lwD ks] ∧ Dr ts ks := by
      have : d ∈ [D.lst [.lst (ta.map ttD), lwD ka], .lst [.lst (tb.map ttD), lwD kb], .lst [.lst (tc.map ttD), lwD kc]] := List.mem_of_getElem? hd
      simp only [List.mem_cons, List.not_mem_nil, or_false] at this
      rcases this with rfl | rfl | rfl
      · exact ⟨ta, ka, rfl, hDa⟩
      · exact ⟨tb, kb, rfl, hDb⟩
      · exact ⟨tc, kc, rfl, hDc⟩
    obtain ⟨ts, ks, rfl, hD⟩ := hd
    refine ⟨_, rfl, ?_⟩
    generalize hone : D.lst [.lst (ta.map ttD), lwD ka] = da
    generalize D.lst [.lst (tb.map ttD), lwD kb] = db
    generalize D.lst [.lst (tc.map ttD), lwD kc] = dc
    show Ss (Lp_law_3 [some (.fz (ns.map D.int)), some (.lst ([w0, w1, w2, w3, w4, w5].map wD)), some (.lst ([[], w4, w0, w5].map wD)), some (tD T), some (.int (kk.length : Int)), some (tD T2), none, some (dtT (entT T L)), some (.lst (X.map pl)), some (dtT (entT T2 L2)), some (.lst (L.map pl)), some (.lst (N.map pl)), x12, some (.lst [da, db, dc]), some (.lst [.lst (ts.map ttD), lwD ks]), x15]) _ _ _ _ _
    unfold Lp_law_3
    refine ss_seq (ss_set (rs_call (rs_cons (rs_call (rs_cons (rs_op (rs_var rfl (rs_c (rs_ixL (d := .lst (ts.map ttD)) (atI_nat (j := 0) rfl) ?_)))))))))
    refine rs_cons (rs_op (rs_var rfl (rs_c (rs_ixL (d := lwD ks) (atI_nat (j := 1) rfl) (rs_nil ?_)))))
    refine (written_sp hD).impE ?_ fun _ _ _ z => z.elim
    rintro _ ⟨t, rfl, htl, hrd⟩
    refine rs_nil (Rs.of (pat_ok (by omega) hrd) ?_)
    have hP : PtOk ⟨t, ts, .st :: ks⟩ := ⟨by show ts.length = ks.length + 1; exact hD.len, hD.one, hD.four⟩
    show Ss (seqF _ _ [some (.fz (ns.map D.int)), some (.lst ([w0, w1, w2, w3, w4, w5].map wD)), some (.lst ([[], w4, w0, w5].map wD)), some (tD T), some (.int (kk.length : Int)), some (tD T2), none, some (dtT (entT T L)), some (.lst (X.map pl)), some (dtT (entT T2 L2)), some (.lst (L.map pl)), some (.lst (N.map pl)), x12, some (.lst [da, db, dc]), some (.lst [.lst (ts.map ttD), lwD ks]), some (ptD ⟨t, ts, .st :: ks⟩)]) _ _ _ _ _
    refine ss_seq (ss_if (rs_not (rs_T (rs_call (rs_cons (rs_var (d := ptD ⟨t, ts, .st :: ks⟩) rfl (rs_cons (rs_var (d := tD T) rfl (rs_cons (rs_var (d := dtT (entT T L)) rfl (rs_cons (rs_var rfl (rs_cons (rs_var (d := .lst (L.map pl)) rfl (rs_nil (Rs.of (right_eq hL hN.met hbL hD L fun p hp => hp) (rs_asB ⟨fun z => (by cases z), fun _ => ss_nx ?_⟩)))))))))))))))))
    refine ss_seq (ss_if (rs_not (rs_T (rs_call (rs_cons (rs_var (d := ptD ⟨t, ts, .st :: ks⟩) rfl (rs_cons (rs_var (d := tD T2) rfl (rs_cons (rs_var (d := dtT (entT T2 L2)) rfl (rs_cons (rs_var rfl (rs_cons (rs_call (rs_cons (rs_var (d := dtT (entT T2 L2)) rfl (rs_nil (Rs.of (list_ent T2 L2) (rs_nil (Rs.of (right_eq hL2 hN2.met (fun q hq => by have := l4 q hq; omega) hD L2 fun p hp => hp) (rs_asB ⟨fun z => (by cases z), fun _ => ss_nx ?_⟩)))))))))))))))))))))
    refine ss_seq (ss_if (rs_not (rs_T (rs_call (rs_cons (rs_var (d := ptD ⟨t, ts, .st :: ks⟩) rfl (rs_cons (rs_var (d := tD T) rfl (rs_cons (rs_var (d := dtT (entT T L)) rfl (rs_cons (rs_var rfl (rs_cons (rs_sl (rs_var (d := .lst (L.map pl)) rfl (rs_part (rs_op (rs_call (rs_cons (rs_var (d := .lst (L.map pl)) rfl (rs_nil (rs_lenL (rs_c (rs_sub (rs_asI (rs_noP (rs_slL ?_)))))))))))))))))))))))))))
    rw [cut_map]
    refine rs_nil (Rs.of (right_eq hL hN.met hbL hD _ fun p hp => cut_mem hp) (rs_asB ⟨fun z => (by cases z), fun _ => ss_nx ?_⟩))
    refine ss_each pl N (fun i r => ∃ x12, r = [some (.fz (ns.map D.int)), some (.lst ([w0, w1, w2, w3, w4, w5].map wD)), some (.lst ([[], w4, w0, w5].map wD)), some (tD T), some (.int (kk.length : Int)), some (tD T2), none, some (dtT (entT T L)), some (.lst (X.map pl)), some (dtT (entT T2 L2)), some (.lst (L.map pl)), some (.lst (N.map pl)), x12, some (.lst [da, db, dc]), some (.lst [.lst (ts.map ttD), lwD ks]), some (ptD ⟨t, ts, .st :: ks⟩)]) (rs_var rfl rfl) ⟨_, rfl⟩ ?_ ?_
    · rintro i q r hq ⟨x12, rfl⟩
      obtain ⟨z1, z2⟩ := hNo q (List.mem_of_getElem? hq)
      unfold Lp_law_2
      exact ss_if (rs_not (rs_T (rs_call (rs_cons (rs_var (d := ptD ⟨t, ts, .st :: ks⟩) rfl (rs_cons (rs_var (d := tD T) rfl (rs_cons (rs_var (d := pl q) rfl (rs_nil (Rs.of (no_place_eq hP z1 (by omega)) (rs_asB ⟨fun z => (by cases z), fun _ => ss_nx ⟨_, rfl⟩⟩))))))))))))
    · rintro r ⟨x12, rfl⟩
      exact ⟨_, _, _, rfl⟩
  · rintro r ⟨x12, x14, x15, rfl⟩
    exact ss_ret (rs_c rfl))
end
end Lk
end S_MM_pa
section S_P_walk
set_option Elab.async false
set_option linter.all false
set_option maxRecDepth 100000
set_option maxHeartbeats 4000000
namespace Lk
open PySem L2 Dx
def topS (i : Nat) : Stmt := PySem.Challenge.pw_laidforall_k09_pattern_matches.main.body.getD i (.Pass ⟨0, 0, 0, 0⟩)
abbrev s_is_name : Stmt := topS 7
theorem sc_is_name : FnScope ["text", "char"] ["text"] (defScope s_is_name) := ⟨rfl, rfl, rfl, by decide +kernel, rfl, by decide +kernel, by decide +kernel⟩
abbrev s_node_at : Stmt := topS 9
theorem sc_node_at : FnScope ["tree", "place", "node", "index"] ["tree", "place"] (defScope s_node_at) := ⟨rfl, rfl, rfl, by decide +kernel, rfl, by decide +kernel, by decide +kernel⟩
abbrev s_read_test : Stmt := topS 13
theorem sc_read_test : FnScope ["word", "kind", "dot", "mark"] ["word"] (defScope s_read_test) := ⟨rfl, rfl, rfl, by decide +kernel, rfl, by decide +kernel, by decide +kernel⟩
abbrev s_read_pattern : Stmt := topS 14
theorem sc_read_pattern : FnScope ["text", "tests", "links", "link", "word", "test"] ["text"] (defScope s_read_pattern) := ⟨rfl, rfl, rfl, by decide +kernel, rfl, by decide +kernel, by decide +kernel⟩
abbrev s_Points_init : Stmt := inClass (topS 15) 0
theorem sc_Points_init : FnScope ["self", "patterns", "tests", "ends", "linked", "bit", "pattern", "test", "link"] ["self", "patterns"] (defScope s_Points_init) := ⟨rfl, rfl, rfl, by decide +kernel, rfl, by decide +kernel, by decide +kernel⟩
abbrev s_Points_passed : Stmt := inClass (topS 15) 1
theorem sc_Points_passed : FnScope ["self", "kind", "mark", "bits", "test", "bit"] ["self", "kind", "mark"] (defScope s_Points_passed) := ⟨rfl, rfl, rfl, by decide +kernel, rfl, by decide +kernel, by decide +kernel⟩
abbrev s_Points_here : Stmt := inClass (topS 15) 2
theorem sc_Points_here : FnScope ["self", "passed", "above", "over", "elder", "bits"] ["self", "passed", "above", "over", "elder"] (defScope s_Points_here) := ⟨rfl, rfl, rfl, by decide +kernel, rfl, by decide +kernel, by decide +kernel⟩
abbrev s_Points_bits_at : Stmt := inClass (topS 15) 3
theorem sc_Points_bits_at : FnScope ["self", "tree", "place", "node", "above", "bits", "index", "over", "child"] ["self", "tree", "place"] (defScope s_Points_bits_at) := ⟨rfl, rfl, rfl, by decide +kernel, rfl, by decide +kernel, by decide +kernel⟩
abbrev s_Pattern_init : Stmt := inClass (topS 16) 0
theorem sc_Pattern_init : FnScope ["self", "text", "read"] ["self", "text"] (defScope s_Pattern_init) := ⟨rfl, rfl, rfl, by decide +kernel, rfl, by decide +kernel, by decide +kernel⟩
abbrev s_Pattern_call : Stmt := inClass (topS 16) 1
theorem sc_Pattern_call : FnScope ["self", "tree", "place", "points"] ["self", "tree", "place"] (defScope s_Pattern_call) := ⟨rfl, rfl, rfl, by decide +kernel, rfl, by decide +kernel, by decide +kernel⟩
abbrev s_l_cell : Stmt := topS 18
theorem sc_l_cell : FnScope ["_law_script", "_law_k"] ["_law_script", "_law_k"] (defScope s_l_cell) := ⟨rfl, rfl, rfl, by decide +kernel, rfl, by decide +kernel, by decide +kernel⟩
abbrev s_l_row : Stmt := topS 19
theorem sc_l_row : FnScope ["_law_cell_here", "_law_limits", "_law_row_here", "_law_rest", "_law_limit", "_law_k", "_law_mixed"] ["_law_cell_here", "_law_limits"] (defScope s_l_row) := ⟨rfl, rfl, rfl, by decide +kernel, rfl, by decide +kernel, by decide +kernel⟩
abbrev s_l_names : Stmt := topS 20
theorem sc_l_names : FnScope ["_law_cell_here", "_law_many", "_law_row_here", "_law_letters", "_law_word", "_law_k", "_law_at", "_law_behind"] ["_law_cell_here", "_law_many"] (defScope s_l_names) := ⟨rfl, rfl, rfl, by decide +kernel, rfl, by decide +kernel, by decide +kernel⟩
abbrev s_l_tree : Stmt := topS 21
theorem sc_l_tree : FnScope ["_law_cell_here", "_law_kinds", "_law_marks", "_law_limits", "_law_k", "_law_row_here", "_law_items", "_law_depth", "_law_part", "_law_below", "_law_kind", "_law_mark", "_law_ahead", "_law_behind", "_law_inside", "_law_front", "_law_tree_here", "_law_leaf"] ["_law_cell_here", "_law_kinds", "_law_marks"] (defScope s_l_tree) := ⟨rfl, rfl, rfl, by decide +kernel, rfl, by decide +kernel, by decide +kernel⟩
abbrev s_l_nodes : Stmt := topS 22
theorem sc_l_nodes : FnScope ["_law_tree_here", "_law_nodes_here", "_law_texts", "_law_left", "_law_node", "_law_place", "_law_elder", "_law_last", "_law_k"] ["_law_tree_here"] (defScope s_l_nodes) := ⟨rfl, rfl, rfl, by decide +kernel, rfl, by decide +kernel, by decide +kernel⟩
abbrev s_l_fits : Stmt := topS 23
theorem sc_l_fits : FnScope ["_law_nodes_here", "_law_tests", "_law_links", "_law_place", "_law_t", "_law_kind", "_law_mark", "_law_elder", "_law_many", "_law_k"] ["_law_nodes_here", "_law_tests", "_law_links", "_law_place", "_law_t"] (defScope s_l_fits) := ⟨rfl, rfl, rfl, by decide +kernel, rfl, by decide +kernel, by decide +kernel⟩
abbrev s_l_aimed : Stmt := topS 24
theorem sc_l_aimed : FnScope ["_law_cell_here", "_law_nodes_here", "_law_row_here", "_law_places", "_law_place", "_law_tests", "_law_links", "_law_k", "_law_kind", "_law_mark", "_law_elder", "_law_many"] ["_law_cell_here", "_law_nodes_here"] (defScope s_l_aimed) := ⟨rfl, rfl, rfl, by decide +kernel, rfl, by decide +kernel, by decide +kernel⟩
abbrev s_l_free : Stmt := topS 25
theorem sc_l_free : FnScope ["_law_cell_here", "_law_kinds", "_law_marks", "_law_row_here", "_law_tests", "_law_k"] ["_law_cell_here", "_law_kinds", "_law_marks"] (defScope s_l_free) := ⟨rfl, rfl, rfl, by decide +kernel, rfl, by decide +kernel, by decide +kernel⟩
abbrev s_l_written : Stmt := topS 26
theorem sc_l_written : FnScope ["_law_tests", "_law_links", "_law_text", "_law_k"] ["_law_tests", "_law_links"] (defScope s_l_written) := ⟨rfl, rfl, rfl, by decide +kernel, rfl, by decide +kernel, by decide +kernel⟩
abbrev s_l_right : Stmt := topS 27
theorem sc_l_right : FnScope ["_law_pattern", "_law_tree_here", "_law_nodes_here", "_law_drawn", "_law_places", "_law_place", "_law_answer"] ["_law_pattern", "_law_tree_here", "_law_nodes_here", "_law_drawn", "_law_places"] (defScope s_l_right) := ⟨rfl, rfl, rfl, by decide +kernel, rfl, by decide +kernel, by decide +kernel⟩
abbrev s_l_no_place : Stmt := topS 28
theorem sc_l_no_place : FnScope ["_law_pattern", "_law_tree_here", "_law_place", "e"] ["_law_pattern", "_law_tree_here", "_law_place"] (defScope s_l_no_place) := ⟨rfl, rfl, rfl, by decide +kernel, rfl, by decide +kernel, by decide +kernel⟩
abbrev s_law : Stmt := topS 29
theorem sc_law : FnScope ["_law_script", "_law_names_here", "_law_marks", "_law_tree_here", "_law_many", "_law_turned", "_law_k", "_law_nodes_here", "_law_texts", "_law_others", "_law_places", "_law_nowhere", "_law_place", "_law_drawn", "_law_one", "_law_pattern"] ["_law_script"] (defScope s_law) := ⟨rfl, rfl, rfl, by decide +kernel, rfl, by decide +kernel, by decide +kernel⟩
abbrev s_BadPattern : Stmt := inClass (topS 4) 0
theorem sc_BadPattern : FnScope ["self", "text"] ["self", "text"] (defScope s_BadPattern) := ⟨rfl, rfl, rfl, by decide +kernel, rfl, by decide +kernel, by decide +kernel⟩
abbrev s_NoPlace : Stmt := inClass (topS 3) 0
theorem sc_NoPlace : FnScope ["self", "place"] ["self", "place"] (defScope s_NoPlace) := ⟨rfl, rfl, rfl, by decide +kernel, rfl, by decide +kernel, by decide +kernel⟩
structure Txt (w : World) (K : PySem.W.Frag) (mg : Str → Option Value) where
  f_is_name : Addr
  fd_is_name : FuncData
  F_is_name : Fun K "is_name" "is_name" s_is_name f_is_name fd_is_name
  g_is_name : mg "is_name" = some (.ref f_is_name)
  b_is_name : L2.Binds K fd_is_name ["text"] []
  f_node_at : Addr
  fd_node_at : FuncData
  F_node_at : Fun K "node_at" "node_at" s_node_at f_node_at fd_node_at
  g_node_at : mg "node_at" = some (.ref f_node_at)
  b_node_at : L2.Binds K fd_node_at ["tree", "place"] []
  f_read_test : Addr
  fd_read_test : FuncData
  F_read_test : Fun K "read_test" "read_test" s_read_test f_read_test fd_read_test
  g_read_test : mg "read_test" = some (.ref f_read_test)
  b_read_test : L2.Binds K fd_read_test ["word"] []
  f_read_pattern : Addr
  fd_read_pattern : FuncData
  F_read_pattern : Fun K "read_pattern" "read_pattern" s_read_pattern f_read_pattern fd_read_pattern
  g_read_pattern : mg "read_pattern" = some (.ref f_read_pattern)
  b_read_pattern : L2.Binds K fd_read_pattern ["text"] []
  f_Points_init : Addr
  fd_Points_init : FuncData
  F_Points_init : Fun K "__init__" "Points.__init__" s_Points_init f_Points_init fd_Points_init
  b_Points_init : L2.Binds K fd_Points_init ["self", "patterns"] []
  f_Points_passed : Addr
  fd_Points_passed : FuncData
  F_Points_passed : Fun K "passed" "Points.passed" s_Points_passed f_Points_passed fd_Points_passed
  b_Points_passed : L2.Binds K fd_Points_passed ["self", "kind", "mark"] []
  f_Points_here : Addr
  fd_Points_here : FuncData
  F_Points_here : Fun K "here" "Points.here" s_Points_here f_Points_here fd_Points_here
  b_Points_here : L2.Binds K fd_Points_here ["self", "passed", "above", "over", "elder"] []
  f_Points_bits_at : Addr
  fd_Points_bits_at : FuncData
  F_Points_bits_at : Fun K "bits_at" "Points.bits_at" s_Points_bits_at f_Points_bits_at fd_Points_bits_at
  b_Points_bits_at : L2.Binds K fd_Points_bits_at ["self", "tree", "place"] []
  f_Pattern_init : Addr
  fd_Pattern_init : FuncData
  F_Pattern_init : Fun K "__init__" "Pattern.__init__" s_Pattern_init f_Pattern_init fd_Pattern_init
  b_Pattern_init : L2.Binds K fd_Pattern_init ["self", "text"] []
  f_Pattern_call : Addr
  fd_Pattern_call : FuncData
  F_Pattern_call : Fun K "__call__" "Pattern.__call__" s_Pattern_call f_Pattern_call fd_Pattern_call
  b_Pattern_call : L2.Binds K fd_Pattern_call ["self", "tree", "place"] []
  f_l_cell : Addr
  fd_l_cell : FuncData
  F_l_cell : Fun K "_law_cell" "_law_cell" s_l_cell f_l_cell fd_l_cell
  g_l_cell : mg "_law_cell" = some (.ref f_l_cell)
  b_l_cell : L2.Binds K fd_l_cell ["_law_script", "_law_k"] []
  f_l_row : Addr
  fd_l_row : FuncData
  F_l_row : Fun K "_law_row" "_law_row" s_l_row f_l_row fd_l_row
  g_l_row : mg "_law_row" = some (.ref f_l_row)
  b_l_row : L2.Binds K fd_l_row ["_law_cell_here", "_law_limits"] []
  f_l_names : Addr
  fd_l_names : FuncData
  F_l_names : Fun K "_law_names" "_law_names" s_l_names f_l_names fd_l_names
  g_l_names : mg "_law_names" = some (.ref f_l_names)
  b_l_names : L2.Binds K fd_l_names ["_law_cell_here", "_law_many"] []
  f_l_tree : Addr
  fd_l_tree : FuncData
  F_l_tree : Fun K "_law_tree" "_law_tree" s_l_tree f_l_tree fd_l_tree
  g_l_tree : mg "_law_tree" = some (.ref f_l_tree)
  b_l_tree : L2.Binds K fd_l_tree ["_law_cell_here", "_law_kinds", "_law_marks"] []
  f_l_nodes : Addr
  fd_l_nodes : FuncData
  F_l_nodes : Fun K "_law_nodes" "_law_nodes" s_l_nodes f_l_nodes fd_l_nodes
  g_l_nodes : mg "_law_nodes" = some (.ref f_l_nodes)
  b_l_nodes : L2.Binds K fd_l_nodes ["_law_tree_here"] []
  f_l_fits : Addr
  fd_l_fits : FuncData
  F_l_fits : Fun K "_law_fits" "_law_fits" s_l_fits f_l_fits fd_l_fits
  g_l_fits : mg "_law_fits" = some (.ref f_l_fits)
  b_l_fits : L2.Binds K fd_l_fits ["_law_nodes_here", "_law_tests", "_law_links", "_law_place", "_law_t"] []
  f_l_aimed : Addr
  fd_l_aimed : FuncData
  F_l_aimed : Fun K "_law_aimed" "_law_aimed" s_l_aimed f_l_aimed fd_l_aimed
  g_l_aimed : mg "_law_aimed" = some (.ref f_l_aimed)
  b_l_aimed : L2.Binds K fd_l_aimed ["_law_cell_here", "_law_nodes_here"] []
  f_l_free : Addr
  fd_l_free : FuncData
  F_l_free : Fun K "_law_free" "_law_free" s_l_free f_l_free fd_l_free
  g_l_free : mg "_law_free" = some (.ref f_l_free)
  b_l_free : L2.Binds K fd_l_free ["_law_cell_here", "_law_kinds", "_law_marks"] []
  f_l_written : Addr
  fd_l_written : FuncData
  F_l_written : Fun K "_law_written" "_law_written" s_l_written f_l_written fd_l_written
  g_l_written : mg "_law_written" = some (.ref f_l_written)
  b_l_written : L2.Binds K fd_l_written ["_law_tests", "_law_links"] []
  f_l_right : Addr
  fd_l_right : FuncData
  F_l_right : Fun K "_law_right" "_law_right" s_l_right f_l_right fd_l_right
  g_l_right : mg "_law_right" = some (.ref f_l_right)
  b_l_right : L2.Binds K fd_l_right ["_law_pattern", "_law_tree_here", "_law_nodes_here", "_law_drawn", "_law_places"] []
  f_l_no_place : Addr
  fd_l_no_place : FuncData
  F_l_no_place : Fun K "_law_no_place" "_law_no_place" s_l_no_place f_l_no_place fd_l_no_place
  g_l_no_place : mg "_law_no_place" = some (.ref f_l_no_place)
  b_l_no_place : L2.Binds K fd_l_no_place ["_law_pattern", "_law_tree_here", "_law_place"] []
  f_law : Addr
  fd_law : FuncData
  F_law : Fun K "law" "law" s_law f_law fd_law
  g_law : mg "law" = some (.ref f_law)
  b_law : L2.Binds K fd_law ["_law_script"] []
  n_ValueError : mg "ValueError" = none
  n_bool : mg "bool" = none
  n_int : mg "int" = none
  n_isinstance : mg "isinstance" = none
  n_len : mg "len" = none
  n_list : mg "list" = none
  n_max : mg "max" = none
  n_range : mg "range" = none
  n_str : mg "str" = none
  n_tuple : mg "tuple" = none
  n_zip : mg "zip" = none
  t_LETTERS : Tok
  c_LETTERS : mg "LETTERS" = some (.str "abcdefghijklmnopqrstuvwxyz" t_LETTERS)
  t_MOST_TESTS : Tok
  c_MOST_TESTS : mg "MOST_TESTS" = some (.int 4 t_MOST_TESTS)
  k_LINKS : Addr
  c_LINKS : mg "LINKS" = some (.ref k_LINKS)
  kd_LINKS : ModD K w k_LINKS md_LINKS
  a_BadPattern : Addr
  g_BadPattern : mg "BadPattern" = some (.ref a_BadPattern)
  a_LaidError : Addr
  g_LaidError : mg "LaidError" = some (.ref a_LaidError)
  a_NoPlace : Addr
  g_NoPlace : mg "NoPlace" = some (.ref a_NoPlace)
  o_BadPattern : OexC K a_BadPattern
  fI_BadPattern : Addr
  fdI_BadPattern : FuncData
  i_BadPattern : PySem.W.findIn K (.ref a_BadPattern) "__init__" = some (some (.ref fI_BadPattern))
  ti_BadPattern : PySem.W.typeIn K (.ref fI_BadPattern) = some (.type "function")
  FI_BadPattern : Fun K "__init__" "BadPattern.__init__" s_BadPattern fI_BadPattern fdI_BadPattern
  b_BadPattern : L2.Binds K fdI_BadPattern ["self", "text"] []
  no_BadPattern_text : PySem.W.findIn K (.ref a_BadPattern) "text" = some none
  xf_BadPattern : XfC K a_BadPattern
  xc_BadPattern : ExcC K a_BadPattern
  e_BadPattern_NoPlace : PySem.W.exmOne K (.ref a_BadPattern) (.ref a_NoPlace) = some false
  q_BadPattern_BadPattern : PySem.W.kitOne K (.ref a_BadPattern) (.ref a_BadPattern) = some true
  q_BadPattern_LaidError : PySem.W.kitOne K (.ref a_BadPattern) (.ref a_LaidError) = some true
  q_BadPattern_ValueError : PySem.W.kitOne K (.ref a_BadPattern) (.type "ValueError") = some true
  o_NoPlace : OexC K a_NoPlace
  fI_NoPlace : Addr
  fdI_NoPlace : FuncData
  i_NoPlace : PySem.W.findIn K (.ref a_NoPlace) "__init__" = some (some (.ref fI_NoPlace))
  ti_NoPlace : PySem.W.typeIn K (.ref fI_NoPlace) = some (.type "function")
  FI_NoPlace : Fun K "__init__" "NoPlace.__init__" s_NoPlace fI_NoPlace fdI_NoPlace
  b_NoPlace : L2.Binds K fdI_NoPlace ["self", "place"] []
  no_NoPlace_place : PySem.W.findIn K (.ref a_NoPlace) "place" = some none
  xf_NoPlace : XfC K a_NoPlace
  xc_NoPlace : ExcC K a_NoPlace
  e_NoPlace_NoPlace : PySem.W.exmOne K (.ref a_NoPlace) (.ref a_NoPlace) = some true
  q_NoPlace_BadPattern : PySem.W.kitOne K (.ref a_NoPlace) (.ref a_BadPattern) = some false
  q_NoPlace_LaidError : PySem.W.kitOne K (.ref a_NoPlace) (.ref a_LaidError) = some true
  q_NoPlace_ValueError : PySem.W.kitOne K (.ref a_NoPlace) (.type "ValueError") = some true
  a_Pattern : Addr
  g_Pattern : mg "Pattern" = some (.ref a_Pattern)
  cl_Pattern : L2.Cls K a_Pattern
  a_Points : Addr
  g_Points : mg "Points" = some (.ref a_Points)
  cl_Points : L2.Cls K a_Points
  mk_Pattern : L2.Mk K a_Pattern f_Pattern_init
  mk_Points : L2.Mk K a_Points f_Points_init
  na_Pattern_links : L2.NoAttr K a_Pattern "links"
  na_Pattern_tests : L2.NoAttr K a_Pattern "tests"
  na_Pattern_text : L2.NoAttr K a_Pattern "text"
  na_Points_ends : L2.NoAttr K a_Points "ends"
  na_Points_linked : L2.NoAttr K a_Points "linked"
  na_Points_tests : L2.NoAttr K a_Points "tests"
  m_Pattern___call__ : L2.Meth K a_Pattern "__call__" f_Pattern_call
  m_Points_bits_at : L2.Meth K a_Points "bits_at" f_Points_bits_at
  m_Points_here : L2.Meth K a_Points "here" f_Points_here
  m_Points_passed : L2.Meth K a_Points "passed" f_Points_passed
  co_Pattern : StX.CallO K a_Pattern f_Pattern_call
def Txt.cm {w : World} {K : PySem.W.Frag} {mg : Str → Option Value} (T : Txt w K mg) : CM := fun n => if n = "BadPattern" then some T.a_BadPattern else if n = "NoPlace" then some T.a_NoPlace else if n = "Pattern" then some T.a_Pattern else if n = "Points" then some T.a_Points else none
section
variable {P : Program} {w : World} {K : PySem.W.Frag} {mg : Str → Option Value} {base : Heap}
theorem Txt.cm_BadPattern (T : Txt w K mg) : T.cm "BadPattern" = some T.a_BadPattern := by unfold Txt.cm; rw [if_pos rfl]
theorem Txt.cm_NoPlace (T : Txt w K mg) : T.cm "NoPlace" = some T.a_NoPlace := by unfold Txt.cm; rw [if_neg (by decide), if_pos rfl]
theorem Txt.cm_Pattern (T : Txt w K mg) : T.cm "Pattern" = some T.a_Pattern := by unfold Txt.cm; rw [if_neg (by decide), if_neg (by decide), if_pos rfl]
theorem Txt.cm_Points (T : Txt w K mg) : T.cm "Points" = some T.a_Points := by unfold Txt.cm; rw [if_neg (by decide), if_neg (by decide), if_neg (by decide), if_pos rfl]
theorem Txt.exm_NoPlace (T : Txt w K mg) : ∀ n C b, T.cm n = some C → isM_NoPlace n = some b → PySem.W.exmOne K (.ref C) (.ref T.a_NoPlace) = some b := by
  intro n C b h1 h2
  unfold Txt.cm at h1
  unfold isM_NoPlace at h2
  by_cases e0 : n = "BadPattern"
  · subst e0; simp at h1 h2; subst h1 h2; exact T.e_BadPattern_NoPlace
  by_cases e1 : n = "NoPlace"
  · subst e1; simp [e0] at h1 h2; subst h1 h2; exact T.e_NoPlace_NoPlace
  simp [e0, e1] at h2
theorem Txt.xf_of_NoPlace (T : Txt w K mg) {C : Addr} (h : ∃ n, T.cm n = some C ∧ isM_NoPlace n = some true) : XfC K C := by
  obtain ⟨n, h1, h2⟩ := h
  unfold Txt.cm at h1
  unfold isM_NoPlace at h2
  by_cases e0 : n = "BadPattern"
  · subst e0; simp at h2
  by_cases e1 : n = "NoPlace"
  · subst e1; simp [e0] at h1; subst h1; exact T.xf_NoPlace
  simp [e0, e1] at h2
theorem Txt.xc_of_NoPlace (T : Txt w K mg) {C : Addr} (h : ∃ n, T.cm n = some C ∧ isM_NoPlace n = some true) : ExcC K C := by
  obtain ⟨n, h1, h2⟩ := h
  unfold Txt.cm at h1
  unfold isM_NoPlace at h2
  by_cases e0 : n = "BadPattern"
  · subst e0; simp at h2
  by_cases e1 : n = "NoPlace"
  · subst e1; simp [e0] at h1; subst h1; exact T.xc_NoPlace
  simp [e0, e1] at h2
theorem Txt.no_of_NoPlace_place (T : Txt w K mg) {C : Addr} (h : ∃ n, T.cm n = some C ∧ isM_NoPlace n = some true) : PySem.W.findIn K (.ref C) "place" = some none := by
  obtain ⟨n, h1, h2⟩ := h
  unfold Txt.cm at h1
  unfold isM_NoPlace at h2
  by_cases e0 : n = "BadPattern"
  · subst e0; simp at h2
  by_cases e1 : n = "NoPlace"
  · subst e1; simp [e0] at h1; subst h1; exact T.no_NoPlace_place
  simp [e0, e1] at h2
theorem Txt.isi_BadPattern (T : Txt w K mg) : ∀ n C b, T.cm n = some C → isM_BadPattern n = some b → PySem.W.kitOne K (.ref C) (.ref T.a_BadPattern) = some b := by
  intro n C b h1 h2
  unfold Txt.cm at h1
  unfold isM_BadPattern at h2
  by_cases e0 : n = "BadPattern"
  · subst e0; simp at h1 h2; subst h1 h2; exact T.q_BadPattern_BadPattern
  by_cases e1 : n = "NoPlace"
  · subst e1; simp [e0] at h1 h2; subst h1 h2; exact T.q_NoPlace_BadPattern
  simp [e0, e1] at h2
theorem Txt.isi_LaidError (T : Txt w K mg) : ∀ n C b, T.cm n = some C → isM_LaidError n = some b → PySem.W.kitOne K (.ref C) (.ref T.a_LaidError) = some b := by
  intro n C b h1 h2
  unfold Txt.cm at h1
  unfold isM_LaidError at h2
  by_cases e0 : n = "BadPattern"
  · subst e0; simp at h1 h2; subst h1 h2; exact T.q_BadPattern_LaidError
  by_cases e1 : n = "NoPlace"
  · subst e1; simp [e0] at h1 h2; subst h1 h2; exact T.q_NoPlace_LaidError
  simp [e0, e1] at h2
theorem Txt.isi_ValueError (T : Txt w K mg) : ∀ n C b, T.cm n = some C → isM_ValueError n = some b → PySem.W.kitOne K (.ref C) (.type "ValueError") = some b := by
  intro n C b h1 h2
  unfold Txt.cm at h1
  unfold isM_ValueError at h2
  by_cases e0 : n = "BadPattern"
  · subst e0; simp at h1 h2; subst h1 h2; exact T.q_BadPattern_ValueError
  by_cases e1 : n = "NoPlace"
  · subst e1; simp [e0] at h1 h2; subst h1 h2; exact T.q_NoPlace_ValueError
  simp [e0, e1] at h2
theorem ox_BadPattern (T : Txt w K mg) : FnOk P w K mg base (L2.CX P w) 1 T.fI_BadPattern T.fdI_BadPattern ["self", "text"] (spX1 K T.a_BadPattern "text") := xinit1 T.FI_BadPattern sc_BadPattern rfl rfl fun cdv A outer s H E => pss_one (ps_ost (pv 0) (pv 1))
theorem ox_NoPlace (T : Txt w K mg) : FnOk P w K mg base (L2.CX P w) 1 T.fI_NoPlace T.fdI_NoPlace ["self", "place"] (spX1 K T.a_NoPlace "place") := xinit1 T.FI_NoPlace sc_NoPlace rfl rfl fun cdv A outer s H E => pss_one (ps_ost (pv 0) (pv 1))
theorem ok_is_name (T : Txt w K mg) : FnOk P w K mg base (L2.CX P w) 1 T.f_is_name T.fd_is_name ["text"] (spD K T.cm [false] false F_is_name)   := dok (G' := []) (k := 0) T.F_is_name sc_is_name rfl (by decide) fun cdv A outer s H E hr =>
  (ds_cons (ds_if gok0 (dt_not (dt_chain or_le os_ord or_le os_ord (db_of de_int) (db_of (de_bltn call_len cs_len (by rfl) T.n_len (by decide +kernel) (dm_bor (db_var 0 (pv 0) (.inl (by rfl))) dm_nil))) (db_of de_int)))
  (ds_one (ds_ret gok0 rfl de_bl))
  ds_nil)
  (ds_cons (ds_for gok0 (passes_of rfl) rfl (di_str (de_var 0 (pv 0) rfl)) (dg_name 1 sc_is_name.nd rfl (by first | exact Or.inl rfl | exact Or.inr rfl))
  (ds_one (ds_if gok0 (dt_cmp (or_nin (hu65 hr)) os_nin (db_var 1 (pv 1) (.inl (by rfl))) (db_of (de_c (v := .str "abcdefghijklmnopqrstuvwxyz") (pe_glob (by rfl) T.c_LETTERS ⟨_, rfl⟩) fun _ => rp_lit (by decide +kernel))) (by rfl))
  (ds_one (ds_ret gok0 rfl de_bl))
  ds_nil)))
  (ds_one (ds_ret gok0 rfl de_bl))))
theorem ok_node_at (T : Txt w K mg) : FnOk P w K mg base (L2.CX P w) 3 T.f_node_at T.fd_node_at ["tree", "place"] (spD K T.cm [false, false] false F_node_at)   := dok (G' := []) (k := 2) T.F_node_at sc_node_at rfl (by decide) fun cdv A outer s H E hr =>
  (ds_cons (ds_set 2 gok0 sc_node_at.nd rfl (by first | exact Or.inl rfl | exact Or.inr rfl) (de_var 0 (pv 0) rfl))
  (ds_cons (ds_for gok0 (passes_of rfl) rfl (di_tup (de_var 1 (pv 1) rfl)) (dg_name 3 sc_node_at.nd rfl (by first | exact Or.inl rfl | exact Or.inr rfl))
  (ds_cons (ds_if gok0 (PW.pt (dw_or (dt_val (de_isi "str" T.n_isinstance (by rfl) (by rfl) T.n_str (by decide +kernel) (db_var 2 (pv 2) (.inl (by rfl))))) (dw_or1 (dt_not (dt_chain or_le os_ord or_lt os_ord (db_of de_int) (db_var 3 (pv 3) (.inl (by rfl))) (db_of (de_bltn call_len cs_len (by rfl) T.n_len (by decide +kernel) (dm_bor (db_of (de_ix (db_var 2 (pv 2) (.inl (by rfl))) (db_of de_int) (fun _ _ => rfl))) dm_nil))))))))
  (ds_one (ds_raise1 gok0 T.cm_NoPlace rfl (takes_of rfl rfl rfl rfl) T.o_NoPlace T.i_NoPlace T.ti_NoPlace T.no_NoPlace_place (ox_NoPlace T) (hr.mono (by decide)) T.b_NoPlace (by rfl) T.g_NoPlace (da_cons (de_var 1 (pv 1) rfl) da_nil)))
  ds_nil)
  (ds_one (ds_set 2 gok0 sc_node_at.nd rfl (by first | exact Or.inl rfl | exact Or.inr rfl) (de_ix (db_of (de_ix (db_var 2 (pv 2) (.inl (by rfl))) (db_of de_int) (fun _ _ => rfl))) (db_var 3 (pv 3) (.inl (by rfl))) (fun _ _ => rfl))))))
  (ds_one (ds_ret gok0 rfl (de_var 2 (pv 2) rfl)))))
theorem ok_read_test (T : Txt w K mg) : FnOk P w K mg base (L2.CX P w) 2 T.f_read_test T.fd_read_test ["word"] (spD K T.cm [false] false F_read_test)   := dok (G' := []) (k := 1) T.F_read_test sc_read_test rfl (by decide) fun cdv A outer s H E hr =>
  (ds_cons (ds_asg gok0 (de_m1 PySem.F.slot_str_partition PySem.F.type_str_partition mt_partition ms_part (db_var 0 (pv 0) (.inl (by rfl))) (db_of (de_strL (by decide +kernel)))) (dg_tup rfl (dg_cons (dg_name 1 sc_read_test.nd rfl (by first | exact Or.inl rfl | exact Or.inr rfl)) (dg_cons (dg_name 2 sc_read_test.nd rfl (by first | exact Or.inl rfl | exact Or.inr rfl)) (dg_cons (dg_name 3 sc_read_test.nd rfl (by first | exact Or.inl rfl | exact Or.inr rfl)) dg_nil)))))
  (ds_cons (ds_if gok0 (PW.pt (dw_and (dt_cmp (or_ne hr.units) os_ne (db_var 1 (pv 1) (.inl (by rfl))) (db_of (de_strL (by decide +kernel))) (nomark _)) (dw_and1 (dt_not (dt_val (de_callV (ok_is_name T) (takes_of rfl rfl rfl rfl) (hr.mono (by decide)) (by rfl) T.g_is_name T.F_is_name.kp T.b_is_name (dm_val (de_var 1 (pv 1) rfl) dm_nil)))))))
  (ds_one (ds_ret gok0 rfl de_non))
  ds_nil)
  (ds_cons (ds_if gok0 (PW.pt (dw_and (dt_cmp (or_ne hr.units) os_ne (db_var 2 (pv 2) (.inl (by rfl))) (db_of (de_strL (by decide +kernel))) (nomark _)) (dw_and1 (dt_not (dt_val (de_callV (ok_is_name T) (takes_of rfl rfl rfl rfl) (hr.mono (by decide)) (by rfl) T.g_is_name T.F_is_name.kp T.b_is_name (dm_val (de_var 3 (pv 3) rfl) dm_nil)))))))
  (ds_one (ds_ret gok0 rfl de_non))
  ds_nil)
  (ds_one (ds_ret gok0 rfl (de_tup (da_cons (de_var 1 (pv 1) rfl) (da_cons (de_var 3 (pv 3) rfl) da_nil))))))))
theorem ok_read_pattern (T : Txt w K mg) : FnOk P w K mg base (L2.CX P w) 3 T.f_read_pattern T.fd_read_pattern ["text"] (spD K T.cm [false] false F_read_pattern)   := dok (G' := []) (k := 2) T.F_read_pattern sc_read_pattern rfl (by decide) fun cdv A outer s H E hr =>
  (ds_cons (ds_setO 1 gok0 (show 1 < 6 by decide) sc_read_pattern.nd rfl (by first | exact Or.inl rfl | exact Or.inr rfl) (de_lst da_nil))
  (ds_cons (ds_setO 2 gok0 (show 2 < 6 by decide) sc_read_pattern.nd rfl (by first | exact Or.inl rfl | exact Or.inr rfl) (de_lst da_nil))
  (ds_cons (ds_set 3 gok0 sc_read_pattern.nd rfl (by first | exact Or.inl rfl | exact Or.inr rfl) (de_strL (by decide +kernel)))
  (ds_cons (ds_for gok0 (passes_of rfl) rfl (di_list (de_pub (de_m1 PySem.F.slot_str_split PySem.F.type_str_split mt_split ms_split (db_var 0 (pv 0) (.inl (by rfl))) (db_of (de_strL (by decide +kernel)))))) (dg_name 4 sc_read_pattern.nd rfl (by first | exact Or.inl rfl | exact Or.inr rfl))
  (ds_cons (ds_if gok0 (PW.pt (dw_and (dt_mdIn T.kd_LINKS (db_var 4 (pv 4) (.inl (by rfl))) (pe_glob (v := .ref T.k_LINKS) (by rfl) T.c_LINKS rfl) (by rfl)) (dw_and1 (dt_cmp (or_eq hr.units) os_eq (db_var 3 (pv 3) (.inl (by rfl))) (db_of (de_strL (by decide +kernel))) (nomark _)))))
  (ds_cons (ds_set 3 gok0 sc_read_pattern.nd rfl (by first | exact Or.inl rfl | exact Or.inr rfl) (de_mdGet T.kd_LINKS (pe_glob (v := .ref T.k_LINKS) (by rfl) T.c_LINKS rfl) (db_var 4 (pv 4) (.inl (by rfl))) (fun _ _ => rfl)))
  (ds_one ds_cont))
  ds_nil)
  (ds_cons (ds_set 5 gok0 sc_read_pattern.nd rfl (by first | exact Or.inl rfl | exact Or.inr rfl) (de_callV (ok_read_test T) (takes_of rfl rfl rfl rfl) (hr.mono (by decide)) (by rfl) T.g_read_test T.F_read_test.kp T.b_read_test (dm_val (de_var 4 (pv 4) rfl) dm_nil)))
  (ds_cons (ds_if gok0 (dt_cmp op_isN os_is (db_var 5 (pv 5) (.inl (by rfl))) (db_of de_non) (nomark _))
  (ds_one (ds_ret gok0 rfl de_non))
  ds_nil)
  (ds_cons (ds_app 1 gok0 rfl (pv 1) (de_var 5 (pv 5) rfl))
  (ds_cons (ds_app 2 gok0 rfl (pv 2) (de_var 3 (pv 3) rfl))
  (ds_one (ds_set 3 gok0 sc_read_pattern.nd rfl (by first | exact Or.inl rfl | exact Or.inr rfl) (de_strL (by decide +kernel))))))))))
  (ds_cons (ds_if gok0 (PW.pt (dw_or (dt_cmp (or_ne hr.units) os_ne (db_var 3 (pv 3) (.inl (by rfl))) (db_of (de_strL (by decide +kernel))) (nomark _)) (dw_or1 (dt_cmp or_gt os_ord (db_of (de_bltn call_len cs_len (by rfl) T.n_len (by decide +kernel) (dm_bor (db_var 1 (pv 1) (.inr (.inl (by trivial)))) dm_nil))) (db_of (de_c (v := .int 4) (pe_glob (by rfl) T.c_MOST_TESTS ⟨_, rfl⟩) fun _ => .int _)) (nomark _)))))
  (ds_one (ds_ret gok0 rfl de_non))
  ds_nil)
  (ds_one (ds_ret gok0 rfl (de_tup (da_cons (de_type call_tuple_of cs_tuple (by rfl) T.n_tuple (by decide +kernel) (dm_bor (db_var 1 (pv 1) (.inr (.inl (by trivial)))) dm_nil)) (da_cons (de_type call_tuple_of cs_tuple (by rfl) T.n_tuple (by decide +kernel) (dm_bor (db_var 2 (pv 2) (.inr (.inl (by trivial)))) dm_nil)) da_nil))))))))))
theorem ok_Points_init (T : Txt w K mg) : FnOk P w K mg base (L2.CX P w) 1 T.f_Points_init T.fd_Points_init ["self", "patterns"] (spI K T.cm T.a_Points [false] F_Points_init)   := dokI (k := 0) T.F_Points_init sc_Points_init T.cm_Points rfl (by decide) (fun _ => rfl) fun cdv A outer s H E a hr =>
  (ds_cons (ds_setO 2 gok0 (show 2 < 9 by decide) sc_Points_init.nd rfl (by first | exact Or.inl rfl | exact Or.inr rfl) (de_lst da_nil))
  (ds_cons (ds_setO 3 gok0 (show 3 < 9 by decide) sc_Points_init.nd rfl (by first | exact Or.inl rfl | exact Or.inr rfl) (de_lst da_nil))
  (ds_cons (ds_setO 4 gok0 (show 4 < 9 by decide) sc_Points_init.nd rfl (by first | exact Or.inl rfl | exact Or.inr rfl) (de_disp (ps := [((dC (.str (Sg [115, 116, 97, 114, 116]))), (dC (.int 0))), ((dC (.str (Sg [97, 110, 99, 101, 115, 116, 111, 114]))), (dC (.int 0))), ((dC (.str (Sg [112, 97, 114, 101, 110, 116]))), (dC (.int 0))), ((dC (.str (Sg [101, 108, 100, 101, 114]))), (dC (.int 0)))]) (pps_cons (de_strL (by decide +kernel)) de_int (pps_cons (de_strL (by decide +kernel)) de_int (pps_cons (de_strL (by decide +kernel)) de_int (pps_cons (de_strL (by decide +kernel)) de_int pps_nil)))) rfl rfl (by simp) (by decide) rfl))
  (ds_cons (ds_set 5 gok0 sc_Points_init.nd rfl (by first | exact Or.inl rfl | exact Or.inr rfl) de_int)
  (ds_cons (ds_for gok0 (passes_of rfl) rfl (di_list (de_var 1 (pv 1) rfl)) (dg_name 6 sc_Points_init.nd rfl (by first | exact Or.inl rfl | exact Or.inr rfl))
  (ds_cons (ds_for gok0 (passes_of rfl) rfl (di_zipTT T.n_zip (by rfl) (da_cons (de_fld T.cm_Pattern T.cl_Pattern T.na_Pattern_tests (db_var 6 (pv 6) (.inl (by rfl)))) (da_cons (de_fld T.cm_Pattern T.cl_Pattern T.na_Pattern_links (db_var 6 (pv 6) (.inl (by rfl)))) da_nil))) (dg_tup rfl (dg_cons (dg_name 7 sc_Points_init.nd rfl (by first | exact Or.inl rfl | exact Or.inr rfl)) (dg_cons (dg_name 8 sc_Points_init.nd rfl (by first | exact Or.inl rfl | exact Or.inr rfl)) dg_nil)))
  (ds_cons (ds_app 2 gok0 rfl (pv 2) (de_tup (da_cons (de_var 7 (pv 7) rfl) (da_cons (de_var 5 (pv 5) rfl) da_nil))))
  (ds_cons (ds_put 4 gok0 hr rfl (pv 4) (de_var 8 (pv 8) rfl) (de_op or_add os_add (db_of (de_getZ hr (db_var 4 (pv 4) (.inr (.inl (by trivial)))) (db_var 8 (pv 8) (.inl (by rfl))) (fun _ _ => rfl))) (db_var 5 (pv 5) (.inl (by rfl)))))
  (ds_one (ds_set 5 gok0 sc_Points_init.nd rfl (by first | exact Or.inl rfl | exact Or.inr rfl) (de_op or_mulX os_mulX (db_var 5 (pv 5) (.inl (by rfl))) (db_of de_int)))))))
  (ds_one (ds_app 3 gok0 rfl (pv 3) (de_op or_fdiv os_fdiv (db_var 5 (pv 5) (.inl (by rfl))) (db_of de_int))))))
  (ds_pub 2 (ds_cons (ds_fst 0 gok0 T.cm_Points T.cl_Points T.na_Points_tests trivial (pv 0) (de_var 2 (pv 2) rfl))
  (ds_pub 4 (ds_cons (ds_fst 0 gok0 T.cm_Points T.cl_Points T.na_Points_linked trivial (pv 0) (de_var 4 (pv 4) rfl))
  (ds_pub 3 (ds_one (ds_fst 0 gok0 T.cm_Points T.cl_Points T.na_Points_ends trivial (pv 0) (de_var 3 (pv 3) rfl))) (.inl rfl))) (.inl rfl))) (.inl rfl)))))))
theorem ok_Points_passed (T : Txt w K mg) : FnOk P w K mg base (L2.CX P w) 1 T.f_Points_passed T.fd_Points_passed ["self", "kind", "mark"] (spD K T.cm [true, false, false] false F_Points_passed)   := dok (G' := []) (k := 0) T.F_Points_passed sc_Points_passed rfl (by decide) fun cdv A outer s H E hr =>
  (ds_cons (ds_set 3 gok0 sc_Points_passed.nd rfl (by first | exact Or.inl rfl | exact Or.inr rfl) de_int)
  (ds_cons (ds_for gok0 (passes_of rfl) rfl (di_list (de_fld T.cm_Points T.cl_Points T.na_Points_tests (db_var 0 (pv 0) (.inr (.inr (by rfl)))))) (dg_tup rfl (dg_cons (dg_name 4 sc_Points_passed.nd rfl (by first | exact Or.inl rfl | exact Or.inr rfl)) (dg_cons (dg_name 5 sc_Points_passed.nd rfl (by first | exact Or.inl rfl | exact Or.inr rfl)) dg_nil)))
  (ds_one (ds_if gok0 (PW.pt (dw_and (dt_cmp (or_in (hu65 hr)) os_in (db_of (de_ix (db_var 4 (pv 4) (.inl (by rfl))) (db_of de_int) (fun _ _ => rfl))) (db_of (de_tup (da_cons (de_strL (by decide +kernel)) (da_cons (de_var 1 (pv 1) rfl) da_nil)))) (by rfl)) (dw_and1 (dt_cmp (or_in (hu65 hr)) os_in (db_of (de_ix (db_var 4 (pv 4) (.inl (by rfl))) (db_of de_int) (fun _ _ => rfl))) (db_of (de_tup (da_cons (de_strL (by decide +kernel)) (da_cons (de_var 2 (pv 2) rfl) da_nil)))) (by rfl)))))
  (ds_one (ds_set 3 gok0 sc_Points_passed.nd rfl (by first | exact Or.inl rfl | exact Or.inr rfl) (de_op or_add os_add (db_var 3 (pv 3) (.inl (by rfl))) (db_var 5 (pv 5) (.inl (by rfl))))))
  ds_nil)))
  (ds_one (ds_ret gok0 rfl (de_var 3 (pv 3) rfl)))))
theorem ok_Points_here (T : Txt w K mg) : FnOk P w K mg base (L2.CX P w) 1 T.f_Points_here T.fd_Points_here ["self", "passed", "above", "over", "elder"] (spD K T.cm [true, false, false, false, false] false F_Points_here)   := dok (G' := []) (k := 0) T.F_Points_here sc_Points_here rfl (by decide) fun cdv A outer s H E hr =>
  (ds_cons (ds_set 5 gok0 sc_Points_here.nd rfl (by first | exact Or.inl rfl | exact Or.inr rfl) (de_getZ hr (db_of (de_fld T.cm_Points T.cl_Points T.na_Points_linked (db_var 0 (pv 0) (.inr (.inr (by rfl)))))) (db_of (de_strL (by decide +kernel))) (fun _ _ => rfl)))
  (ds_cons (ds_set 5 gok0 sc_Points_here.nd rfl (by first | exact Or.inl rfl | exact Or.inr rfl) (de_op L2.op_or os_ints (db_var 5 (pv 5) (.inl (by rfl))) (db_of (de_op L2.op_and os_ints (db_of (de_op or_mulX os_mulX (db_var 2 (pv 2) (.inl (by rfl))) (db_of de_int))) (db_of (de_getZ hr (db_of (de_fld T.cm_Points T.cl_Points T.na_Points_linked (db_var 0 (pv 0) (.inr (.inr (by rfl)))))) (db_of (de_strL (by decide +kernel))) (fun _ _ => rfl)))))))
  (ds_cons (ds_set 5 gok0 sc_Points_here.nd rfl (by first | exact Or.inl rfl | exact Or.inr rfl) (de_op L2.op_or os_ints (db_var 5 (pv 5) (.inl (by rfl))) (db_of (de_op L2.op_and os_ints (db_of (de_op or_mulX os_mulX (db_var 3 (pv 3) (.inl (by rfl))) (db_of de_int))) (db_of (de_getZ hr (db_of (de_fld T.cm_Points T.cl_Points T.na_Points_linked (db_var 0 (pv 0) (.inr (.inr (by rfl)))))) (db_of (de_strL (by decide +kernel))) (fun _ _ => rfl)))))))
  (ds_cons (ds_set 5 gok0 sc_Points_here.nd rfl (by first | exact Or.inl rfl | exact Or.inr rfl) (de_op L2.op_or os_ints (db_var 5 (pv 5) (.inl (by rfl))) (db_of (de_op L2.op_and os_ints (db_of (de_op or_mulX os_mulX (db_var 4 (pv 4) (.inl (by rfl))) (db_of de_int))) (db_of (de_getZ hr (db_of (de_fld T.cm_Points T.cl_Points T.na_Points_linked (db_var 0 (pv 0) (.inr (.inr (by rfl)))))) (db_of (de_strL (by decide +kernel))) (fun _ _ => rfl)))))))
  (ds_one (ds_ret gok0 rfl (de_op L2.op_and os_ints (db_var 5 (pv 5) (.inl (by rfl))) (db_var 1 (pv 1) (.inl (by rfl))))))))))
theorem ok_Points_bits_at (T : Txt w K mg) : FnOk P w K mg base (L2.CX P w) 4 T.f_Points_bits_at T.fd_Points_bits_at ["self", "tree", "place"] (spD K T.cm [true, false, false] false F_Points_bits_at)   := dok (G' := []) (k := 3) T.F_Points_bits_at sc_Points_bits_at rfl (by decide) fun cdv A outer s H E hr =>
  (ds_cons (ds_if gok0 (dt_val (de_isi "str" T.n_isinstance (by rfl) (by rfl) T.n_str (by decide +kernel) (db_of (de_callV (ok_node_at T) (takes_of rfl rfl rfl rfl) (hr.mono (by decide)) (by rfl) T.g_node_at T.F_node_at.kp T.b_node_at (dm_val (de_var 1 (pv 1) rfl) (dm_val (de_var 2 (pv 2) rfl) dm_nil))))))
  (ds_one (ds_raise1 gok0 T.cm_NoPlace rfl (takes_of rfl rfl rfl rfl) T.o_NoPlace T.i_NoPlace T.ti_NoPlace T.no_NoPlace_place (ox_NoPlace T) (hr.mono (by decide)) T.b_NoPlace (by rfl) T.g_NoPlace (da_cons (de_var 2 (pv 2) rfl) da_nil)))
  ds_nil)
  (ds_cons (ds_par 3 4 gok0 rfl sc_Points_bits_at.nd rfl rfl (by decide) rfl rfl (de_var 1 (pv 1) rfl) de_int (by rfl))
  (ds_cons (ds_set 5 gok0 sc_Points_bits_at.nd rfl (by first | exact Or.inl rfl | exact Or.inr rfl) (de_meth (rm := false) T.cm_Points T.cl_Points T.m_Points_here (ok_Points_here T) (takes_of rfl rfl rfl rfl) (hr.mono (by decide)) T.b_Points_here (db_var 0 (pv 0) (.inr (.inr (by rfl)))) (dm_val (de_meth (rm := false) T.cm_Points T.cl_Points T.m_Points_passed (ok_Points_passed T) (takes_of rfl rfl rfl rfl) (hr.mono (by decide)) T.b_Points_passed (db_var 0 (pv 0) (.inr (.inr (by rfl)))) (dm_val (de_ix (db_var 3 (pv 3) (.inl (by rfl))) (db_of de_int) (fun _ _ => rfl)) (dm_val (de_ix (db_var 3 (pv 3) (.inl (by rfl))) (db_of de_int) (fun _ _ => rfl)) dm_nil))) (dm_val de_int (dm_val de_int (dm_val de_int dm_nil))))))
  (ds_cons (ds_for gok0 (passes_of rfl) rfl (di_tup (de_var 2 (pv 2) rfl)) (dg_name 6 sc_Points_bits_at.nd rfl (by first | exact Or.inl rfl | exact Or.inr rfl))
  (ds_cons (ds_par 7 4 gok0 rfl sc_Points_bits_at.nd rfl rfl (by decide) rfl rfl (de_var 5 (pv 5) rfl) (de_op L2.op_or os_ints (db_var 4 (pv 4) (.inl (by rfl))) (db_var 5 (pv 5) (.inl (by rfl)))) (by rfl))
  (ds_cons (ds_set 5 gok0 sc_Points_bits_at.nd rfl (by first | exact Or.inl rfl | exact Or.inr rfl) de_int)
  (ds_cons (ds_for gok0 (passes_of rfl) rfl (di_tup (de_sl (db_of (de_ix (db_var 3 (pv 3) (.inl (by rfl))) (db_of de_int) (fun _ _ => rfl))) dp_none (dp_some (de_op or_add os_add (db_var 6 (pv 6) (.inl (by rfl))) (db_of de_int))))) (dg_name 8 sc_Points_bits_at.nd rfl (by first | exact Or.inl rfl | exact Or.inr rfl))
  (ds_one (ds_if gok0 (dt_not (dt_val (de_isi "str" T.n_isinstance (by rfl) (by rfl) T.n_str (by decide +kernel) (db_var 8 (pv 8) (.inl (by rfl))))))
  (ds_one (ds_set 5 gok0 sc_Points_bits_at.nd rfl (by first | exact Or.inl rfl | exact Or.inr rfl) (de_meth (rm := false) T.cm_Points T.cl_Points T.m_Points_here (ok_Points_here T) (takes_of rfl rfl rfl rfl) (hr.mono (by decide)) T.b_Points_here (db_var 0 (pv 0) (.inr (.inr (by rfl)))) (dm_val (de_meth (rm := false) T.cm_Points T.cl_Points T.m_Points_passed (ok_Points_passed T) (takes_of rfl rfl rfl rfl) (hr.mono (by decide)) T.b_Points_passed (db_var 0 (pv 0) (.inr (.inr (by rfl)))) (dm_val (de_ix (db_var 8 (pv 8) (.inl (by rfl))) (db_of de_int) (fun _ _ => rfl)) (dm_val (de_ix (db_var 8 (pv 8) (.inl (by rfl))) (db_of de_int) (fun _ _ => rfl)) dm_nil))) (dm_val (de_var 4 (pv 4) rfl) (dm_val (de_var 7 (pv 7) rfl) (dm_val (de_var 5 (pv 5) rfl) dm_nil)))))))
  ds_nil)))
  (ds_one (ds_set 3 gok0 sc_Points_bits_at.nd rfl (by first | exact Or.inl rfl | exact Or.inr rfl) (de_ix (db_of (de_ix (db_var 3 (pv 3) (.inl (by rfl))) (db_of de_int) (fun _ _ => rfl))) (db_var 6 (pv 6) (.inl (by rfl))) (fun _ _ => rfl))))))))
  (ds_one (ds_ret gok0 rfl (de_var 5 (pv 5) rfl)))))))
theorem ok_Pattern_init (T : Txt w K mg) : FnOk P w K mg base (L2.CX P w) 4 T.f_Pattern_init T.fd_Pattern_init ["self", "text"] (spI K T.cm T.a_Pattern [false] F_Pattern_init)   := dokI (k := 3) T.F_Pattern_init sc_Pattern_init T.cm_Pattern rfl (by decide) (fun _ => rfl) fun cdv A outer s H E a hr =>
  (ds_cons (ds_set 2 gok0 sc_Pattern_init.nd rfl (by first | exact Or.inl rfl | exact Or.inr rfl) (de_callV (ok_read_pattern T) (takes_of rfl rfl rfl rfl) (hr.mono (by decide)) (by rfl) T.g_read_pattern T.F_read_pattern.kp T.b_read_pattern (dm_val (de_var 1 (pv 1) rfl) dm_nil)))
  (ds_cons (ds_if gok0 (dt_cmp op_isN os_is (db_var 2 (pv 2) (.inl (by rfl))) (db_of de_non) (nomark _))
  (ds_one (ds_raise1 gok0 T.cm_BadPattern rfl (takes_of rfl rfl rfl rfl) T.o_BadPattern T.i_BadPattern T.ti_BadPattern T.no_BadPattern_text (ox_BadPattern T) (hr.mono (by decide)) T.b_BadPattern (by rfl) T.g_BadPattern (da_cons (de_var 1 (pv 1) rfl) da_nil)))
  ds_nil)
  (ds_cons (ds_fst 0 gok0 T.cm_Pattern T.cl_Pattern T.na_Pattern_text trivial (pv 0) (de_var 1 (pv 1) rfl))
  (ds_cons (ds_fst 0 gok0 T.cm_Pattern T.cl_Pattern T.na_Pattern_tests trivial (pv 0) (de_ix (db_var 2 (pv 2) (.inl (by rfl))) (db_of de_int) (fun _ _ => rfl)))
  (ds_one (ds_fst 0 gok0 T.cm_Pattern T.cl_Pattern T.na_Pattern_links trivial (pv 0) (de_ix (db_var 2 (pv 2) (.inl (by rfl))) (db_of de_int) (fun _ _ => rfl))))))))
theorem ok_Pattern_call (T : Txt w K mg) : FnOk P w K mg base (L2.CX P w) 5 T.f_Pattern_call T.fd_Pattern_call ["self", "tree", "place"] (spD K T.cm [false, false, false] false F_Pattern_call)   := dok (G' := []) (k := 4) T.F_Pattern_call sc_Pattern_call rfl (by decide) fun cdv A outer s H E hr =>
  (ds_cons (ds_set 3 gok0 sc_Pattern_call.nd rfl (by first | exact Or.inl rfl | exact Or.inr rfl) (de_pub (de_make T.mk_Points (ok_Points_init T) (takes_of rfl rfl rfl rfl) (hr.mono (by decide)) (by rfl) T.g_Points T.b_Points_init (dm_val (de_pub (de_lst (da_cons (de_var 0 (pv 0) rfl) da_nil))) dm_nil))))
  (ds_one (ds_ret gok0 rfl (de_cmp (or_ne hr.units) os_ne (db_of (de_op L2.op_and os_ints (db_of (de_meth (rm := false) T.cm_Points T.cl_Points T.m_Points_bits_at (ok_Points_bits_at T) (takes_of rfl rfl rfl rfl) (hr.mono (by decide)) T.b_Points_bits_at (db_var 3 (pv 3) (.inl (by rfl))) (dm_val (de_var 1 (pv 1) rfl) (dm_val (de_var 2 (pv 2) rfl) dm_nil)))) (db_of (de_ix (db_of (de_fld T.cm_Points T.cl_Points T.na_Points_ends (db_var 3 (pv 3) (.inl (by rfl))))) (db_of de_int) (fun _ _ => rfl))))) (db_of de_int) (nomark _)))))
theorem ok_l_cell (T : Txt w K mg) : FnOk P w K mg base (L2.CX P w) 1 T.f_l_cell T.fd_l_cell ["_law_script", "_law_k"] (spD K T.cm [false, false] false F_l_cell)   := dok (G' := []) (k := 0) T.F_l_cell sc_l_cell rfl (by decide) fun cdv A outer s H E hr =>
  (ds_cons (ds_if gok0 (dt_cmp or_lt os_ord (db_var 1 (pv 1) (.inl (by rfl))) (db_of (de_bltn call_len cs_len (by rfl) T.n_len (by decide +kernel) (dm_bor (db_var 0 (pv 0) (.inl (by rfl))) dm_nil))) (nomark _))
  (ds_one (ds_ret gok0 rfl (de_type cr_int cs_int (by rfl) T.n_int (by decide +kernel) (dm_bor (db_of (de_ix (db_var 0 (pv 0) (.inl (by rfl))) (db_var 1 (pv 1) (.inl (by rfl))) (fun _ _ => rfl))) dm_nil))))
  ds_nil)
  (ds_one (ds_ret gok0 rfl (de_op or_add os_add (db_of (de_op or_mulX os_mulX (db_of de_int) (db_var 1 (pv 1) (.inl (by rfl))))) (db_of de_int)))))
theorem ok_l_row (T : Txt w K mg) : FnOk P w K mg base (L2.CX P w) 1 T.f_l_row T.fd_l_row ["_law_cell_here", "_law_limits"] (spD K T.cm [false, false] false F_l_row)   := dok (G' := []) (k := 0) T.F_l_row sc_l_row rfl (by decide) fun cdv A outer s H E hr =>
  (ds_cons (ds_setO 2 gok0 (show 2 < 7 by decide) sc_l_row.nd rfl (by first | exact Or.inl rfl | exact Or.inr rfl) (de_lst da_nil))
  (ds_cons (ds_if gok0 (dt_cmp or_ge os_ord (db_var 0 (pv 0) (.inl (by rfl))) (db_of de_int) (nomark _))
  (ds_cons (ds_set 3 gok0 sc_l_row.nd rfl (by first | exact Or.inl rfl | exact Or.inr rfl) (de_op op_sub os_sub (db_var 0 (pv 0) (.inl (by rfl))) (db_of de_int)))
  (ds_cons (ds_for gok0 (passes_of rfl) rfl (di_list (de_var 1 (pv 1) rfl)) (dg_name 4 sc_l_row.nd rfl (by first | exact Or.inl rfl | exact Or.inr rfl))
  (ds_cons (ds_app 2 gok0 rfl (pv 2) (de_op op_mod os_mod (db_of (de_type cr_int cs_int (by rfl) T.n_int (by decide +kernel) (dm_bor (db_var 3 (pv 3) (.inl (by rfl))) dm_nil))) (db_var 4 (pv 4) (.inl (by rfl)))))
  (ds_one (ds_set 3 gok0 sc_l_row.nd rfl (by first | exact Or.inl rfl | exact Or.inr rfl) (de_op or_fdiv os_fdiv (db_var 3 (pv 3) (.inl (by rfl))) (db_var 4 (pv 4) (.inl (by rfl))))))))
  (ds_pub 2 (ds_one (ds_ret gok0 rfl (de_var 2 (pv 2) rfl))) (.inl rfl))))
  ds_nil)
  (ds_cons (ds_for gok0 (passes_of rfl) rfl (di_rng1 T.n_range (by rfl) (da_cons (de_bltn call_len cs_len (by rfl) T.n_len (by decide +kernel) (dm_bor (db_var 1 (pv 1) (.inl (by rfl))) dm_nil)) da_nil)) (dg_name 5 sc_l_row.nd rfl (by first | exact Or.inl rfl | exact Or.inr rfl))
  (ds_cons (ds_set 6 gok0 sc_l_row.nd rfl (by first | exact Or.inl rfl | exact Or.inr rfl) (de_op op_mod os_mod (db_of (de_type cr_int cs_int (by rfl) T.n_int (by decide +kernel) (dm_bor (db_of (de_op or_add os_add (db_of (de_op or_add os_add (db_of (de_op or_mulX os_mulX (db_var 0 (pv 0) (.inl (by rfl))) (db_of de_int))) (db_of (de_op or_mulX os_mulX (db_var 5 (pv 5) (.inl (by rfl))) (db_of de_int))))) (db_of de_int))) dm_nil))) (db_of de_int)))
  (ds_cons (ds_set 6 gok0 sc_l_row.nd rfl (by first | exact Or.inl rfl | exact Or.inr rfl) (de_op op_mod os_mod (db_of (de_type cr_int cs_int (by rfl) T.n_int (by decide +kernel) (dm_bor (db_of (de_op or_add os_add (db_of (de_op or_add os_add (db_of (de_op or_mulX os_mulX (db_var 6 (pv 6) (.inl (by rfl))) (db_of (de_op or_add os_add (db_of de_int) (db_of (de_op or_mulX os_mulX (db_of de_int) (db_var 5 (pv 5) (.inl (by rfl))))))))) (db_of (de_op or_mulX os_mulX (db_of (de_op or_mulX os_mulX (db_var 5 (pv 5) (.inl (by rfl))) (db_var 5 (pv 5) (.inl (by rfl))))) (db_of de_int))))) (db_of de_int))) dm_nil))) (db_of de_int)))
  (ds_one (ds_app 2 gok0 rfl (pv 2) (de_op op_mod os_mod (db_of (de_type cr_int cs_int (by rfl) T.n_int (by decide +kernel) (dm_bor (db_of (de_op or_fdiv os_fdiv (db_var 6 (pv 6) (.inl (by rfl))) (db_of de_int))) dm_nil))) (db_of (de_ix (db_var 1 (pv 1) (.inl (by rfl))) (db_var 5 (pv 5) (.inl (by rfl))) (fun _ _ => rfl)))))))))
  (ds_pub 2 (ds_one (ds_ret gok0 rfl (de_var 2 (pv 2) rfl))) (.inl rfl)))))
theorem ok_l_names (T : Txt w K mg) : FnOk P w K mg base (L2.CX P w) 2 T.f_l_names T.fd_l_names ["_law_cell_here", "_law_many"] (spD K T.cm [false, false] false F_l_names)   := dok (G' := []) (k := 1) T.F_l_names sc_l_names rfl (by decide) fun cdv A outer s H E hr =>
  (ds_cons (ds_set 2 gok0 sc_l_names.nd rfl (by first | exact Or.inl rfl | exact Or.inr rfl) (de_callV (ok_l_row T) (takes_of rfl rfl rfl rfl) (hr.mono (by decide)) (by rfl) T.g_l_row T.F_l_row.kp T.b_l_row (dm_val (de_var 0 (pv 0) rfl) (dm_val (de_pub (de_lst (da_cons de_int (da_cons de_int (da_cons de_int (da_cons de_int (da_cons de_int (da_cons de_int (da_cons de_int (da_cons de_int (da_cons de_int (da_cons de_int (da_cons de_int (da_cons de_int da_nil)))))))))))))) dm_nil))))
  (ds_cons (ds_set 3 gok0 sc_l_names.nd rfl (by first | exact Or.inl rfl | exact Or.inr rfl) (de_strL (by decide +kernel)))
  (ds_cons (ds_if gok0 (dt_cmp (or_eq hr.units) os_eq (db_of (de_ix (db_var 2 (pv 2) (.inl (by rfl))) (db_of de_int) (fun _ _ => rfl))) (db_of de_int) (nomark _))
  (ds_one (ds_ret gok0 rfl (de_sl (db_own (de_lst (da_cons (de_strL (by decide +kernel)) (da_cons (de_strL (by decide +kernel)) (da_cons (de_strL (by decide +kernel)) (da_cons (de_strL (by decide +kernel)) (da_cons (de_strL (by decide +kernel)) (da_cons (de_strL (by decide +kernel)) (da_cons (de_strL (by decide +kernel)) (da_cons (de_strL (by decide +kernel)) da_nil)))))))))) dp_none (dp_some (de_var 1 (pv 1) rfl)))))
  ds_nil)
  (ds_cons (ds_set 4 gok0 sc_l_names.nd rfl (by first | exact Or.inl rfl | exact Or.inr rfl) (de_m1 PySem.F.slot_str_join PySem.F.type_str_join mt_join ms_join (db_of (de_strL (by decide +kernel))) (db_own (de_lc (own := [("_law_k", 5)]) rfl sc_l_names.nd (di_list (de_sl (db_var 2 (pv 2) (.inl (by rfl))) (dp_some de_int) dp_none)) (blkOk_by (own := [("_law_k", 5)]) (N := ["_law_cell_here", "_law_many", "_law_row_here", "_law_letters", "_law_word", "_law_k", "_law_at", "_law_behind"]) (sc := defScope s_l_names) (by decide +kernel)) (fun _ _ _ _ _ => (dg_name 5 sc_l_names.nd rfl (by first | exact Or.inl rfl | exact Or.inr rfl))) (fun _ _ _ _ _ => dt_nil) (fun _ _ _ _ _ => (de_ix (db_var 3 (pv 3) (.inl (by rfl))) (db_var 5 (pv 5) (.inl (by rfl))) (fun _ _ => rfl)))))))
  (ds_cons (ds_if gok0 (dt_cmp (or_eq hr.units) os_eq (db_of (de_ix (db_var 2 (pv 2) (.inl (by rfl))) (db_of de_int) (fun _ _ => rfl))) (db_of de_int) (nomark _))
  (ds_one (ds_ret gok0 rfl (de_pub (de_lc (own := [("_law_k", 5)]) rfl sc_l_names.nd (di_rng1 T.n_range (by rfl) (da_cons (de_var 1 (pv 1) rfl) da_nil)) (blkOk_by (own := [("_law_k", 5)]) (N := ["_law_cell_here", "_law_many", "_law_row_here", "_law_letters", "_law_word", "_law_k", "_law_at", "_law_behind"]) (sc := defScope s_l_names) (by decide +kernel)) (fun _ _ _ _ _ => (dg_name 5 sc_l_names.nd rfl (by first | exact Or.inl rfl | exact Or.inr rfl))) (fun _ _ _ _ _ => dt_nil) (fun _ _ _ _ _ => (de_sl (db_var 4 (pv 4) (.inl (by rfl))) dp_none (dp_some (de_op or_add os_add (db_var 5 (pv 5) (.inl (by rfl))) (db_of de_int)))))))))
  ds_nil)
  (ds_cons (ds_set 6 gok0 sc_l_names.nd rfl (by first | exact Or.inl rfl | exact Or.inr rfl) (de_op op_mod os_mod (db_of (de_type cr_int cs_int (by rfl) T.n_int (by decide +kernel) (dm_bor (db_of (de_ix (db_var 2 (pv 2) (.inl (by rfl))) (db_of de_int) (fun _ _ => rfl))) dm_nil))) (db_of (de_op or_add os_add (db_of (de_ix (db_var 2 (pv 2) (.inl (by rfl))) (db_of de_int) (fun _ _ => rfl))) (db_of de_int)))))
  (ds_cons (ds_set 7 gok0 sc_l_names.nd rfl (by first | exact Or.inl rfl | exact Or.inr rfl) (de_sl (db_var 4 (pv 4) (.inl (by rfl))) (dp_some (de_op or_add os_add (db_var 6 (pv 6) (.inl (by rfl))) (db_of de_int))) (dp_some (de_op or_add os_add (db_of (de_ix (db_var 2 (pv 2) (.inl (by rfl))) (db_of de_int) (fun _ _ => rfl))) (db_of de_int)))))
  (ds_one (ds_ret gok0 rfl (de_pub (de_lc (own := [("_law_k", 5)]) rfl sc_l_names.nd (di_rng1 T.n_range (by rfl) (da_cons (de_var 1 (pv 1) rfl) da_nil)) (blkOk_by (own := [("_law_k", 5)]) (N := ["_law_cell_here", "_law_many", "_law_row_here", "_law_letters", "_law_word", "_law_k", "_law_at", "_law_behind"]) (sc := defScope s_l_names) (by decide +kernel)) (fun _ _ _ _ _ => (dg_name 5 sc_l_names.nd rfl (by first | exact Or.inl rfl | exact Or.inr rfl))) (fun _ _ _ _ _ => dt_nil) (fun _ _ _ _ _ => (de_op or_add os_add (db_of (de_op or_add os_add (db_of (de_sl (db_var 4 (pv 4) (.inl (by rfl))) dp_none (dp_some (de_var 6 (pv 6) rfl)))) (db_of (de_ix (db_var 3 (pv 3) (.inl (by rfl))) (db_of (de_op op_mod os_mod (db_of (de_type cr_int cs_int (by rfl) T.n_int (by decide +kernel) (dm_bor (db_of (de_op or_add os_add (db_of (de_ix (db_var 2 (pv 2) (.inl (by rfl))) (db_of de_int) (fun _ _ => rfl))) (db_var 5 (pv 5) (.inl (by rfl))))) dm_nil))) (db_of de_int))) (fun _ _ => rfl))))) (db_var 7 (pv 7) (.inl (by rfl))))))))))))))))
theorem ok_l_tree (T : Txt w K mg) : FnOk P w K mg base (L2.CX P w) 2 T.f_l_tree T.fd_l_tree ["_law_cell_here", "_law_kinds", "_law_marks"] (spD K T.cm [false, false, false] false F_l_tree)   := dok (G' := []) (k := 1) T.F_l_tree sc_l_tree rfl (by decide) fun cdv A outer s H E hr =>
  (ds_cons (ds_set 3 gok0 sc_l_tree.nd rfl (by first | exact Or.inl rfl | exact Or.inr rfl) (de_pub (de_lst (da_cons de_int (da_cons de_int (da_cons de_int (da_cons de_int da_nil)))))))
  (ds_cons (ds_for gok0 (passes_of rfl) rfl (di_rng1 T.n_range (by rfl) (da_cons de_int da_nil)) (dg_name 4 sc_l_tree.nd rfl (by first | exact Or.inl rfl | exact Or.inr rfl))
  (ds_one (ds_set 3 gok0 sc_l_tree.nd rfl (by first | exact Or.inl rfl | exact Or.inr rfl) (de_op or_add os_add (db_var 3 (pv 3) (.inl (by rfl))) (db_own (de_lst (da_cons de_int (da_cons de_int (da_cons de_int (da_cons de_int (da_cons de_int da_nil)))))))))))
  (ds_cons (ds_set 5 gok0 sc_l_tree.nd rfl (by first | exact Or.inl rfl | exact Or.inr rfl) (de_callV (ok_l_row T) (takes_of rfl rfl rfl rfl) (hr.mono (by decide)) (by rfl) T.g_l_row T.F_l_row.kp T.b_l_row (dm_val (de_var 0 (pv 0) rfl) (dm_val (de_var 3 (pv 3) rfl) dm_nil))))
  (ds_cons (ds_setO 6 gok0 (show 6 < 18 by decide) sc_l_tree.nd rfl (by first | exact Or.inl rfl | exact Or.inr rfl) (de_lst da_nil))
  (ds_cons (ds_set 7 gok0 sc_l_tree.nd rfl (by first | exact Or.inl rfl | exact Or.inr rfl) de_int)
  (ds_cons (ds_for gok0 (passes_of rfl) rfl (di_rng1 T.n_range (by rfl) (da_cons (de_op or_add os_add (db_of (de_ix (db_var 5 (pv 5) (.inl (by rfl))) (db_of de_int) (fun _ _ => rfl))) (db_of de_int)) da_nil)) (dg_name 4 sc_l_tree.nd rfl (by first | exact Or.inl rfl | exact Or.inr rfl))
  (ds_cons (ds_set 8 gok0 sc_l_tree.nd rfl (by first | exact Or.inl rfl | exact Or.inr rfl) (de_sl (db_var 5 (pv 5) (.inl (by rfl))) (dp_some (de_op or_add os_add (db_of (de_op or_mulX os_mulX (db_of de_int) (db_var 4 (pv 4) (.inl (by rfl))))) (db_of de_int))) (dp_some (de_op or_add os_add (db_of (de_op or_mulX os_mulX (db_of de_int) (db_var 4 (pv 4) (.inl (by rfl))))) (db_of de_int)))))
  (ds_cons (ds_if gok0 (dt_cmp or_gt os_ord (db_var 4 (pv 4) (.inl (by rfl))) (db_of de_int) (nomark _))
  (ds_one (ds_set 7 gok0 sc_l_tree.nd rfl (by first | exact Or.inl rfl | exact Or.inr rfl) (de_ix (db_own (de_lst (da_cons (de_op or_add os_add (db_var 7 (pv 7) (.inl (by rfl))) (db_of de_int)) (da_cons (de_bltn (call_max2 rfl) cs_ints2 (by rfl) T.n_max (by decide +kernel) (dm_bor (db_var 7 (pv 7) (.inl (by rfl))) (dm_bor (db_of de_int) dm_nil))) (da_cons (de_bltn (call_max2 rfl) cs_ints2 (by rfl) T.n_max (by decide +kernel) (dm_bor (db_of (de_op op_sub os_sub (db_var 7 (pv 7) (.inl (by rfl))) (db_of de_int))) (dm_bor (db_of de_int) dm_nil))) (da_cons de_int da_nil)))))) (db_of (de_ix (db_var 8 (pv 8) (.inl (by rfl))) (db_of de_int) (fun _ _ => rfl))) (fun _ _ => rfl))))
  ds_nil)
  (ds_one (ds_app 6 gok0 rfl (pv 6) (de_tup (da_cons (de_var 7 (pv 7) rfl) (da_cons (de_ix (db_var 1 (pv 1) (.inl (by rfl))) (db_of (de_ix (db_var 8 (pv 8) (.inl (by rfl))) (db_of de_int) (fun _ _ => rfl))) (fun _ _ => rfl)) (da_cons (de_ix (db_var 2 (pv 2) (.inl (by rfl))) (db_of (de_ix (db_var 8 (pv 8) (.inl (by rfl))) (db_of de_int) (fun _ _ => rfl))) (fun _ _ => rfl)) (da_cons (de_ix (db_var 8 (pv 8) (.inl (by rfl))) (db_of de_int) (fun _ _ => rfl)) (da_cons (de_ix (db_var 8 (pv 8) (.inl (by rfl))) (db_of de_int) (fun _ _ => rfl)) da_nil)))))))))))
  (ds_cons (ds_setO 9 gok0 (show 9 < 18 by decide) sc_l_tree.nd rfl (by first | exact Or.inl rfl | exact Or.inr rfl) (de_op op_rep os_repL (db_own (de_lst (da_cons (de_tup da_nil) da_nil))) (db_of (de_op or_add os_add (db_of (de_bltn call_len cs_len (by rfl) T.n_len (by decide +kernel) (dm_bor (db_var 6 (pv 6) (.inr (.inl (by trivial)))) dm_nil))) (db_of de_int)))))
  (ds_cons (ds_for gok0 (passes_of rfl) rfl (di_rng3 T.n_range (by rfl) (da_cons (de_op op_sub os_sub (db_of (de_bltn call_len cs_len (by rfl) T.n_len (by decide +kernel) (dm_bor (db_var 6 (pv 6) (.inr (.inl (by trivial)))) dm_nil))) (db_of de_int)) (da_cons (de_neg de_int) (da_cons (de_neg de_int) da_nil)))) (dg_name 4 sc_l_tree.nd rfl (by first | exact Or.inl rfl | exact Or.inr rfl))
  (ds_cons (ds_asg gok0 (de_ix (db_var 6 (pv 6) (.inr (.inl (by trivial)))) (db_var 4 (pv 4) (.inl (by rfl))) (fun _ _ => rfl)) (dg_tup rfl (dg_cons (dg_name 7 sc_l_tree.nd rfl (by first | exact Or.inl rfl | exact Or.inr rfl)) (dg_cons (dg_name 10 sc_l_tree.nd rfl (by first | exact Or.inl rfl | exact Or.inr rfl)) (dg_cons (dg_name 11 sc_l_tree.nd rfl (by first | exact Or.inl rfl | exact Or.inr rfl)) (dg_cons (dg_name 12 sc_l_tree.nd rfl (by first | exact Or.inl rfl | exact Or.inr rfl)) (dg_cons (dg_name 13 sc_l_tree.nd rfl (by first | exact Or.inl rfl | exact Or.inr rfl)) dg_nil)))))))
  (ds_cons (ds_set 14 gok0 sc_l_tree.nd rfl (by first | exact Or.inl rfl | exact Or.inr rfl) (de_ix (db_var 9 (pv 9) (.inr (.inl (by trivial)))) (db_of (de_op or_add os_add (db_var 7 (pv 7) (.inl (by rfl))) (db_of de_int))) (fun _ _ => rfl)))
  (ds_cons (ds_if gok0 (dt_cmp (or_eq hr.units) os_eq (db_var 13 (pv 13) (.inl (by rfl))) (db_of de_int) (nomark _))
  (ds_one (ds_set 14 gok0 sc_l_tree.nd rfl (by first | exact Or.inl rfl | exact Or.inr rfl) (de_op or_add os_add (db_var 14 (pv 14) (.inl (by rfl))) (db_of (de_tup (da_cons (de_strL (by decide +kernel)) da_nil))))))
  ds_nil)
  (ds_cons (ds_sto 9 gok0 rfl (pv 9) (de_op or_add os_add (db_var 7 (pv 7) (.inl (by rfl))) (db_of de_int)) (de_tup da_nil))
  (ds_cons (ds_set 15 gok0 sc_l_tree.nd rfl (by first | exact Or.inl rfl | exact Or.inr rfl) (de_tup (da_cons (de_tup (da_cons (de_var 10 (pv 10) rfl) (da_cons (de_var 11 (pv 11) rfl) (da_cons (de_var 14 (pv 14) rfl) da_nil)))) da_nil)))
  (ds_cons (ds_if gok0 (dt_cmp (or_eq hr.units) os_eq (db_var 12 (pv 12) (.inl (by rfl))) (db_of de_int) (nomark _))
  (ds_one (ds_set 15 gok0 sc_l_tree.nd rfl (by first | exact Or.inl rfl | exact Or.inr rfl) (de_op or_add os_add (db_of (de_tup (da_cons (de_strL (by decide +kernel)) da_nil))) (db_var 15 (pv 15) (.inl (by rfl))))))
  ds_nil)
  (ds_one (ds_sto 9 gok0 rfl (pv 9) (de_var 7 (pv 7) rfl) (de_op or_add os_add (db_var 15 (pv 15) (.inl (by rfl))) (db_of (de_ix (db_var 9 (pv 9) (.inr (.inl (by trivial)))) (db_var 7 (pv 7) (.inl (by rfl))) (fun _ _ => rfl)))))))))))))
  (ds_cons (ds_set 16 gok0 sc_l_tree.nd rfl (by first | exact Or.inl rfl | exact Or.inr rfl) (de_ix (db_of (de_ix (db_var 9 (pv 9) (.inr (.inl (by trivial)))) (db_of de_int) (fun _ _ => rfl))) (db_of (de_neg de_int)) (fun _ _ => rfl)))
  (ds_cons (ds_set 17 gok0 sc_l_tree.nd rfl (by first | exact Or.inl rfl | exact Or.inr rfl) (de_tup (da_cons (de_ix (db_var 1 (pv 1) (.inl (by rfl))) (db_of de_int) (fun _ _ => rfl)) (da_cons (de_strL (by decide +kernel)) (da_cons (de_tup da_nil) da_nil)))))
  (ds_cons (ds_if gok0 (dt_cmp (or_eq hr.units) os_eq (db_of (de_ix (db_var 5 (pv 5) (.inl (by rfl))) (db_of de_int) (fun _ _ => rfl))) (db_of de_int) (nomark _))
  (ds_one (ds_set 16 gok0 sc_l_tree.nd rfl (by first | exact Or.inl rfl | exact Or.inr rfl) (de_tup (da_cons (de_ix (db_var 16 (pv 16) (.inl (by rfl))) (db_of de_int) (fun _ _ => rfl)) (da_cons (de_ix (db_var 16 (pv 16) (.inl (by rfl))) (db_of de_int) (fun _ _ => rfl)) (da_cons (de_op or_add os_add (db_of (de_type call_tuple_of cs_tuple (by rfl) T.n_tuple (by decide +kernel) (dm_bor (db_of (de_op or_mulX os_mulX (db_own (de_lst (da_cons (de_var 17 (pv 17) rfl) da_nil))) (db_of (de_ix (db_var 5 (pv 5) (.inl (by rfl))) (db_of de_int) (fun _ _ => rfl))))) dm_nil))) (db_of (de_ix (db_var 16 (pv 16) (.inl (by rfl))) (db_of de_int) (fun _ _ => rfl)))) da_nil))))))
  ds_nil)
  (ds_cons (ds_for gok0 (passes_of rfl) rfl (di_rng1 T.n_range (by rfl) (da_cons (de_ix (db_var 5 (pv 5) (.inl (by rfl))) (db_of de_int) (fun _ _ => rfl)) da_nil)) (dg_name 4 sc_l_tree.nd rfl (by first | exact Or.inl rfl | exact Or.inr rfl))
  (ds_one (ds_set 16 gok0 sc_l_tree.nd rfl (by first | exact Or.inl rfl | exact Or.inr rfl) (de_tup (da_cons (de_ix (db_var 1 (pv 1) (.inl (by rfl))) (db_of de_int) (fun _ _ => rfl)) (da_cons (de_ix (db_var 2 (pv 2) (.inl (by rfl))) (db_of de_int) (fun _ _ => rfl)) (da_cons (de_tup (da_cons (de_var 16 (pv 16) rfl) da_nil)) da_nil)))))))
  (ds_one (ds_ret gok0 rfl (de_var 16 (pv 16) rfl)))))))))))))))
theorem ok_l_nodes (T : Txt w K mg) : FnOk P w K mg base (L2.CX P w) 1 T.f_l_nodes T.fd_l_nodes ["_law_tree_here"] (spD K T.cm [false] false F_l_nodes)   := dok (G' := []) (k := 0) T.F_l_nodes sc_l_nodes rfl (by decide) fun cdv A outer s H E hr =>
  (ds_cons (ds_setO 1 gok0 (show 1 < 9 by decide) sc_l_nodes.nd rfl (by first | exact Or.inl rfl | exact Or.inr rfl) de_dnewT)
  (ds_cons (ds_setO 2 gok0 (show 2 < 9 by decide) sc_l_nodes.nd rfl (by first | exact Or.inl rfl | exact Or.inr rfl) (de_lst da_nil))
  (ds_cons (ds_setO 3 gok0 (show 3 < 9 by decide) sc_l_nodes.nd rfl (by first | exact Or.inl rfl | exact Or.inr rfl) (de_lst (da_cons (de_tup (da_cons (de_var 0 (pv 0) rfl) (da_cons (de_tup da_nil) (da_cons de_non da_nil)))) da_nil)))
  (ds_cons (ds_while 100000 gok0 (passes_of rfl) (dt_cmp or_gt os_ord (db_of (de_bltn call_len cs_len (by rfl) T.n_len (by decide +kernel) (dm_bor (db_var 3 (pv 3) (.inr (.inl (by trivial)))) dm_nil))) (db_of de_int) (nomark _))
  (ds_cons (ds_pop 3 gok0 rfl (pv 3) (dg_tup rfl (dg_cons (dg_name 4 sc_l_nodes.nd rfl (by first | exact Or.inl rfl | exact Or.inr rfl)) (dg_cons (dg_name 5 sc_l_nodes.nd rfl (by first | exact Or.inl rfl | exact Or.inr rfl)) (dg_cons (dg_name 6 sc_l_nodes.nd rfl (by first | exact Or.inl rfl | exact Or.inr rfl)) dg_nil)))))
  (ds_cons (ds_if gok0 (dt_val (de_isi "str" T.n_isinstance (by rfl) (by rfl) T.n_str (by decide +kernel) (db_var 4 (pv 4) (.inl (by rfl)))))
  (ds_cons (ds_app 2 gok0 rfl (pv 2) (de_var 5 (pv 5) rfl))
  (ds_one ds_cont))
  ds_nil)
  (ds_cons (ds_putT 1 gok0 hr rfl (pv 1) (de_var 5 (pv 5) rfl) (de_tup (da_cons (de_ix (db_var 4 (pv 4) (.inl (by rfl))) (db_of de_int) (fun _ _ => rfl)) (da_cons (de_ix (db_var 4 (pv 4) (.inl (by rfl))) (db_of de_int) (fun _ _ => rfl)) (da_cons (de_var 6 (pv 6) rfl) (da_cons (de_bltn call_len cs_len (by rfl) T.n_len (by decide +kernel) (dm_bor (db_of (de_ix (db_var 4 (pv 4) (.inl (by rfl))) (db_of de_int) (fun _ _ => rfl))) dm_nil)) da_nil))))))
  (ds_cons (ds_set 7 gok0 sc_l_nodes.nd rfl (by first | exact Or.inl rfl | exact Or.inr rfl) de_non)
  (ds_one (ds_for gok0 (passes_of rfl) rfl (di_rng1 T.n_range (by rfl) (da_cons (de_bltn call_len cs_len (by rfl) T.n_len (by decide +kernel) (dm_bor (db_of (de_ix (db_var 4 (pv 4) (.inl (by rfl))) (db_of de_int) (fun _ _ => rfl))) dm_nil)) da_nil)) (dg_name 8 sc_l_nodes.nd rfl (by first | exact Or.inl rfl | exact Or.inr rfl))
  (ds_cons (ds_app 3 gok0 rfl (pv 3) (de_tup (da_cons (de_ix (db_of (de_ix (db_var 4 (pv 4) (.inl (by rfl))) (db_of de_int) (fun _ _ => rfl))) (db_var 8 (pv 8) (.inl (by rfl))) (fun _ _ => rfl)) (da_cons (de_op or_add os_add (db_var 5 (pv 5) (.inl (by rfl))) (db_of (de_tup (da_cons (de_var 8 (pv 8) rfl) da_nil)))) (da_cons (de_var 7 (pv 7) rfl) da_nil)))))
  (ds_one (ds_if gok0 (dt_not (dt_val (de_isi "str" T.n_isinstance (by rfl) (by rfl) T.n_str (by decide +kernel) (db_of (de_ix (db_of (de_ix (db_var 4 (pv 4) (.inl (by rfl))) (db_of de_int) (fun _ _ => rfl))) (db_var 8 (pv 8) (.inl (by rfl))) (fun _ _ => rfl))))))
  (ds_one (ds_set 7 gok0 sc_l_nodes.nd rfl (by first | exact Or.inl rfl | exact Or.inr rfl) (de_op or_add os_add (db_var 5 (pv 5) (.inl (by rfl))) (db_of (de_tup (da_cons (de_var 8 (pv 8) rfl) da_nil))))))
  ds_nil))))))))))
  (ds_pub 1 (ds_pub 2 (ds_one (ds_ret gok0 rfl (de_pub (de_lst (da_cons (de_var 1 (pv 1) rfl) (da_cons (de_var 2 (pv 2) rfl) da_nil)))))) (.inl rfl)) (.inl rfl))))))
theorem ok_l_fits (T : Txt w K mg) : ∀ {n : Nat}, FnOk P w K mg base (L2.CX P w) (1 + n) T.f_l_fits T.fd_l_fits ["_law_nodes_here", "_law_tests", "_law_links", "_law_place", "_law_t"] (spD K T.cm [false, false, false, false, false] false (F_l_fits n))
  | 0 => fnok_bad
  | n + 1 => dok (G' := []) (k := 1 + n) T.F_l_fits sc_l_fits rfl (by decide) fun cdv A outer s H E hr => by
    have ih := fun T => ok_l_fits T (n := n)
    exact (ds_cons (ds_asg gok0 (de_getZ hr (db_var 0 (pv 0) (.inl (by rfl))) (db_var 3 (pv 3) (.inl (by rfl))) (fun _ _ => rfl)) (dg_tup rfl (dg_cons (dg_name 5 sc_l_fits.nd rfl (by first | exact Or.inl rfl | exact Or.inr rfl)) (dg_cons (dg_name 6 sc_l_fits.nd rfl (by first | exact Or.inl rfl | exact Or.inr rfl)) (dg_cons (dg_name 7 sc_l_fits.nd rfl (by first | exact Or.inl rfl | exact Or.inr rfl)) (dg_cons (dg_name 8 sc_l_fits.nd rfl (by first | exact Or.inl rfl | exact Or.inr rfl)) dg_nil))))))
  (ds_cons (ds_if gok0 (PW.pt (dw_and (dt_cmp (or_ne hr.units) os_ne (db_of (de_ix (db_of (de_ix (db_var 1 (pv 1) (.inl (by rfl))) (db_var 4 (pv 4) (.inl (by rfl))) (fun _ _ => rfl))) (db_of de_int) (fun _ _ => rfl))) (db_of (de_strL (by decide +kernel))) (nomark _)) (dw_and1 (dt_cmp (or_ne hr.units) os_ne (db_of (de_ix (db_of (de_ix (db_var 1 (pv 1) (.inl (by rfl))) (db_var 4 (pv 4) (.inl (by rfl))) (fun _ _ => rfl))) (db_of de_int) (fun _ _ => rfl))) (db_var 5 (pv 5) (.inl (by rfl))) (nomark _)))))
  (ds_one (ds_ret gok0 rfl de_bl))
  ds_nil)
  (ds_cons (ds_if gok0 (PW.pt (dw_and (dt_cmp (or_ne hr.units) os_ne (db_of (de_ix (db_of (de_ix (db_var 1 (pv 1) (.inl (by rfl))) (db_var 4 (pv 4) (.inl (by rfl))) (fun _ _ => rfl))) (db_of de_int) (fun _ _ => rfl))) (db_of (de_strL (by decide +kernel))) (nomark _)) (dw_and1 (dt_cmp (or_ne hr.units) os_ne (db_of (de_ix (db_of (de_ix (db_var 1 (pv 1) (.inl (by rfl))) (db_var 4 (pv 4) (.inl (by rfl))) (fun _ _ => rfl))) (db_of de_int) (fun _ _ => rfl))) (db_var 6 (pv 6) (.inl (by rfl))) (nomark _)))))
  (ds_one (ds_ret gok0 rfl de_bl))
  ds_nil)
  (ds_cons (ds_if gok0 (dt_cmp (or_eq hr.units) os_eq (db_var 4 (pv 4) (.inl (by rfl))) (db_of de_int) (nomark _))
  (ds_one (ds_ret gok0 rfl de_bl))
  ds_nil)
  (ds_cons (ds_if gok0 (dt_cmp (or_eq hr.units) os_eq (db_of (de_ix (db_var 2 (pv 2) (.inl (by rfl))) (db_of (de_op op_sub os_sub (db_var 4 (pv 4) (.inl (by rfl))) (db_of de_int))) (fun _ _ => rfl))) (db_of (de_strL (by decide +kernel))) (nomark _))
  (ds_one (ds_ret gok0 rfl (de_and (de_cmp op_notN os_isnot (db_var 7 (pv 7) (.inl (by rfl))) (db_of de_non) (nomark _)) (de_one (de_callV (ih T) (takes_of rfl rfl rfl rfl) hr (by rfl) T.g_l_fits T.F_l_fits.kp T.b_l_fits (dm_val (de_var 0 (pv 0) rfl) (dm_val (de_var 1 (pv 1) rfl) (dm_val (de_var 2 (pv 2) rfl) (dm_val (de_var 7 (pv 7) rfl) (dm_val (de_op op_sub os_sub (db_var 4 (pv 4) (.inl (by rfl))) (db_of de_int)) dm_nil))))))))))
  ds_nil)
  (ds_cons (ds_if gok0 (dt_cmp (or_eq hr.units) os_eq (db_of (de_ix (db_var 2 (pv 2) (.inl (by rfl))) (db_of (de_op op_sub os_sub (db_var 4 (pv 4) (.inl (by rfl))) (db_of de_int))) (fun _ _ => rfl))) (db_of (de_strL (by decide +kernel))) (nomark _))
  (ds_one (ds_ret gok0 rfl (de_and (de_cmp (or_ne hr.units) os_ne (db_var 3 (pv 3) (.inl (by rfl))) (db_of (de_tup da_nil)) (nomark _)) (de_one (de_callV (ih T) (takes_of rfl rfl rfl rfl) hr (by rfl) T.g_l_fits T.F_l_fits.kp T.b_l_fits (dm_val (de_var 0 (pv 0) rfl) (dm_val (de_var 1 (pv 1) rfl) (dm_val (de_var 2 (pv 2) rfl) (dm_val (de_sl (db_var 3 (pv 3) (.inl (by rfl))) dp_none (dp_some (de_neg de_int))) (dm_val (de_op op_sub os_sub (db_var 4 (pv 4) (.inl (by rfl))) (db_of de_int)) dm_nil))))))))))
  ds_nil)
  (ds_cons (ds_for gok0 (passes_of rfl) rfl (di_rng1 T.n_range (by rfl) (da_cons (de_bltn call_len cs_len (by rfl) T.n_len (by decide +kernel) (dm_bor (db_var 3 (pv 3) (.inl (by rfl))) dm_nil)) da_nil)) (dg_name 9 sc_l_fits.nd rfl (by first | exact Or.inl rfl | exact Or.inr rfl))
  (ds_one (ds_if gok0 (dt_val (de_callV (ih T) (takes_of rfl rfl rfl rfl) hr (by rfl) T.g_l_fits T.F_l_fits.kp T.b_l_fits (dm_val (de_var 0 (pv 0) rfl) (dm_val (de_var 1 (pv 1) rfl) (dm_val (de_var 2 (pv 2) rfl) (dm_val (de_sl (db_var 3 (pv 3) (.inl (by rfl))) dp_none (dp_some (de_var 9 (pv 9) rfl))) (dm_val (de_op op_sub os_sub (db_var 4 (pv 4) (.inl (by rfl))) (db_of de_int)) dm_nil)))))))
  (ds_one (ds_ret gok0 rfl de_bl))
  ds_nil)))
  (ds_one (ds_ret gok0 rfl de_bl)))))))))
theorem ok_l_aimed (T : Txt w K mg) : FnOk P w K mg base (L2.CX P w) 2 T.f_l_aimed T.fd_l_aimed ["_law_cell_here", "_law_nodes_here"] (spD K T.cm [false, false] false F_l_aimed)   := dok (G' := []) (k := 1) T.F_l_aimed sc_l_aimed rfl (by decide) fun cdv A outer s H E hr =>
  (ds_cons (ds_set 2 gok0 sc_l_aimed.nd rfl (by first | exact Or.inl rfl | exact Or.inr rfl) (de_callV (ok_l_row T) (takes_of rfl rfl rfl rfl) (hr.mono (by decide)) (by rfl) T.g_l_row T.F_l_row.kp T.b_l_row (dm_val (de_var 0 (pv 0) rfl) (dm_val (de_pub (de_lst (da_cons de_int (da_cons de_int (da_cons de_int (da_cons de_int (da_cons de_int (da_cons de_int (da_cons de_int (da_cons de_int (da_cons de_int (da_cons de_int (da_cons de_int (da_cons de_int (da_cons de_int (da_cons de_int (da_cons de_int (da_cons de_int (da_cons de_int (da_cons de_int da_nil)))))))))))))))))))) dm_nil))))
  (ds_cons (ds_set 3 gok0 sc_l_aimed.nd rfl (by first | exact Or.inl rfl | exact Or.inr rfl) (de_pub (de_type (call_list_dT rfl) cs_listT (by rfl) T.n_list (by decide +kernel) (dm_bor (db_var 1 (pv 1) (.inl (by rfl))) dm_nil))))
  (ds_cons (ds_set 4 gok0 sc_l_aimed.nd rfl (by first | exact Or.inl rfl | exact Or.inr rfl) (de_ix (db_var 3 (pv 3) (.inl (by rfl))) (db_of (de_op op_mod os_mod (db_of (de_type cr_int cs_int (by rfl) T.n_int (by decide +kernel) (dm_bor (db_of (de_ix (db_var 2 (pv 2) (.inl (by rfl))) (db_of de_int) (fun _ _ => rfl))) dm_nil))) (db_of (de_bltn call_len cs_len (by rfl) T.n_len (by decide +kernel) (dm_bor (db_var 3 (pv 3) (.inl (by rfl))) dm_nil))))) (fun _ _ => rfl)))
  (ds_cons (ds_set 5 gok0 sc_l_aimed.nd rfl (by first | exact Or.inl rfl | exact Or.inr rfl) (de_pub (de_lst da_nil)))
  (ds_cons (ds_set 6 gok0 sc_l_aimed.nd rfl (by first | exact Or.inl rfl | exact Or.inr rfl) (de_pub (de_lst da_nil)))
  (ds_cons (ds_for gok0 (passes_of rfl) rfl (di_rng1 T.n_range (by rfl) (da_cons (de_op or_add os_add (db_of (de_ix (db_var 2 (pv 2) (.inl (by rfl))) (db_of de_int) (fun _ _ => rfl))) (db_of de_int)) da_nil)) (dg_name 7 sc_l_aimed.nd rfl (by first | exact Or.inl rfl | exact Or.inr rfl))
  (ds_cons (ds_asg gok0 (de_getZ hr (db_var 1 (pv 1) (.inl (by rfl))) (db_var 4 (pv 4) (.inl (by rfl))) (fun _ _ => rfl)) (dg_tup rfl (dg_cons (dg_name 8 sc_l_aimed.nd rfl (by first | exact Or.inl rfl | exact Or.inr rfl)) (dg_cons (dg_name 9 sc_l_aimed.nd rfl (by first | exact Or.inl rfl | exact Or.inr rfl)) (dg_cons (dg_name 10 sc_l_aimed.nd rfl (by first | exact Or.inl rfl | exact Or.inr rfl)) (dg_cons (dg_name 11 sc_l_aimed.nd rfl (by first | exact Or.inl rfl | exact Or.inr rfl)) dg_nil))))))
  (ds_cons (ds_if gok0 (dt_cmp (or_eq hr.units) os_eq (db_of (de_ix (db_var 2 (pv 2) (.inl (by rfl))) (db_of (de_op or_add os_add (db_of (de_op or_mulX os_mulX (db_of de_int) (db_var 7 (pv 7) (.inl (by rfl))))) (db_of de_int))) (fun _ _ => rfl))) (db_of de_int) (nomark _))
  (ds_one (ds_set 8 gok0 sc_l_aimed.nd rfl (by first | exact Or.inl rfl | exact Or.inr rfl) (de_strL (by decide +kernel))))
  ds_nil)
  (ds_cons (ds_if gok0 (dt_cmp (or_eq hr.units) os_eq (db_of (de_ix (db_var 2 (pv 2) (.inl (by rfl))) (db_of (de_op or_add os_add (db_of (de_op or_mulX os_mulX (db_of de_int) (db_var 7 (pv 7) (.inl (by rfl))))) (db_of de_int))) (fun _ _ => rfl))) (db_of de_int) (nomark _))
  (ds_one (ds_set 9 gok0 sc_l_aimed.nd rfl (by first | exact Or.inl rfl | exact Or.inr rfl) (de_strL (by decide +kernel))))
  ds_nil)
  (ds_cons (ds_set 5 gok0 sc_l_aimed.nd rfl (by first | exact Or.inl rfl | exact Or.inr rfl) (de_op or_add os_add (db_own (de_lst (da_cons (de_tup (da_cons (de_var 8 (pv 8) rfl) (da_cons (de_var 9 (pv 9) rfl) da_nil))) da_nil))) (db_var 5 (pv 5) (.inl (by rfl)))))
  (ds_one (ds_if gok0 (PW.pt (dw_and (dt_cmp (or_eq hr.units) os_eq (db_of (de_ix (db_var 2 (pv 2) (.inl (by rfl))) (db_of (de_op or_add os_add (db_of (de_op or_mulX os_mulX (db_of de_int) (db_var 7 (pv 7) (.inl (by rfl))))) (db_of de_int))) (fun _ _ => rfl))) (db_of de_int) (nomark _)) (dw_and1 (dt_cmp op_notN os_isnot (db_var 10 (pv 10) (.inl (by rfl))) (db_of de_non) (nomark _)))))
  (ds_cons (ds_set 6 gok0 sc_l_aimed.nd rfl (by first | exact Or.inl rfl | exact Or.inr rfl) (de_op or_add os_add (db_own (de_lst (da_cons (de_strL (by decide +kernel)) da_nil))) (db_var 6 (pv 6) (.inl (by rfl)))))
  (ds_one (ds_set 4 gok0 sc_l_aimed.nd rfl (by first | exact Or.inl rfl | exact Or.inr rfl) (de_var 10 (pv 10) rfl))))
  (ds_one (ds_if gok0 (dt_cmp (or_eq hr.units) os_eq (db_var 4 (pv 4) (.inl (by rfl))) (db_of (de_tup da_nil)) (nomark _))
  (ds_one ds_break)
  (ds_one (ds_if gok0 (dt_cmp (or_eq hr.units) os_eq (db_of (de_ix (db_var 2 (pv 2) (.inl (by rfl))) (db_of (de_op or_add os_add (db_of (de_op or_mulX os_mulX (db_of de_int) (db_var 7 (pv 7) (.inl (by rfl))))) (db_of de_int))) (fun _ _ => rfl))) (db_of de_int) (nomark _))
  (ds_cons (ds_set 6 gok0 sc_l_aimed.nd rfl (by first | exact Or.inl rfl | exact Or.inr rfl) (de_op or_add os_add (db_own (de_lst (da_cons (de_strL (by decide +kernel)) da_nil))) (db_var 6 (pv 6) (.inl (by rfl)))))
  (ds_one (ds_set 4 gok0 sc_l_aimed.nd rfl (by first | exact Or.inl rfl | exact Or.inr rfl) (de_sl (db_var 4 (pv 4) (.inl (by rfl))) dp_none (dp_some (de_neg de_int))))))
  (ds_cons (ds_set 6 gok0 sc_l_aimed.nd rfl (by first | exact Or.inl rfl | exact Or.inr rfl) (de_op or_add os_add (db_own (de_lst (da_cons (de_strL (by decide +kernel)) da_nil))) (db_var 6 (pv 6) (.inl (by rfl)))))
  (ds_one (ds_set 4 gok0 sc_l_aimed.nd rfl (by first | exact Or.inl rfl | exact Or.inr rfl) (de_sl (db_var 4 (pv 4) (.inl (by rfl))) dp_none (dp_some (de_op op_mod os_mod (db_of (de_type cr_int cs_int (by rfl) T.n_int (by decide +kernel) (dm_bor (db_of (de_ix (db_var 2 (pv 2) (.inl (by rfl))) (db_of (de_op or_add os_add (db_of (de_op or_mulX os_mulX (db_of de_int) (db_var 7 (pv 7) (.inl (by rfl))))) (db_of de_int))) (fun _ _ => rfl))) dm_nil))) (db_of (de_bltn call_len cs_len (by rfl) T.n_len (by decide +kernel) (dm_bor (db_var 4 (pv 4) (.inl (by rfl))) dm_nil))))))))))))))))))))
  (ds_one (ds_ret gok0 rfl (de_pub (de_lst (da_cons (de_var 5 (pv 5) rfl) (da_cons (de_sl (db_var 6 (pv 6) (.inl (by rfl))) (dp_some (de_op or_add os_add (db_of (de_op op_sub os_sub (db_of (de_bltn call_len cs_len (by rfl) T.n_len (by decide +kernel) (dm_bor (db_var 6 (pv 6) (.inl (by rfl))) dm_nil))) (db_of (de_bltn call_len cs_len (by rfl) T.n_len (by decide +kernel) (dm_bor (db_var 5 (pv 5) (.inl (by rfl))) dm_nil))))) (db_of de_int))) dp_none) da_nil))))))))))))
theorem ok_l_free (T : Txt w K mg) : FnOk P w K mg base (L2.CX P w) 2 T.f_l_free T.fd_l_free ["_law_cell_here", "_law_kinds", "_law_marks"] (spD K T.cm [false, false, false] false F_l_free)   := dok (G' := []) (k := 1) T.F_l_free sc_l_free rfl (by decide) fun cdv A outer s H E hr =>
  (ds_cons (ds_set 3 gok0 sc_l_free.nd rfl (by first | exact Or.inl rfl | exact Or.inr rfl) (de_callV (ok_l_row T) (takes_of rfl rfl rfl rfl) (hr.mono (by decide)) (by rfl) T.g_l_row T.F_l_row.kp T.b_l_row (dm_val (de_var 0 (pv 0) rfl) (dm_val (de_pub (de_lst (da_cons de_int (da_cons de_int (da_cons de_int (da_cons de_int (da_cons de_int (da_cons de_int (da_cons de_int (da_cons de_int (da_cons de_int (da_cons de_int (da_cons de_int (da_cons de_int (da_cons de_int da_nil))))))))))))))) dm_nil))))
  (ds_cons (ds_setLc 4 gok0 (by decide) rfl sc_l_free.nd rfl rfl (sw_true rfl rfl rfl (by decide +kernel)) (own := [("_law_k", 5)]) (di_rng1 T.n_range (by rfl) (da_cons (de_op or_add os_add (db_of (de_ix (db_var 3 (pv 3) (.inl (by rfl))) (db_of de_int) (fun _ _ => rfl))) (db_of de_int)) da_nil)) (blkOk_by (own := [("_law_k", 5)]) (N := ["_law_cell_here", "_law_kinds", "_law_marks", "_law_row_here", "_law_tests", "_law_k"]) (sc := defScope s_l_free) (by decide +kernel)) (fun _ _ _ _ _ => (dg_name 5 sc_l_free.nd rfl (by first | exact Or.inl rfl | exact Or.inr rfl))) (fun _ _ _ _ _ => dt_nil) (fun _ _ _ _ _ => (de_tup (da_cons (de_ix (db_var 1 (pv 1) (.inl (by rfl))) (db_of (de_ix (db_var 3 (pv 3) (.inl (by rfl))) (db_of (de_op or_add os_add (db_of (de_op or_mulX os_mulX (db_of de_int) (db_var 5 (pv 5) (.inl (by rfl))))) (db_of de_int))) (fun _ _ => rfl))) (fun _ _ => rfl)) (da_cons (de_ix (db_var 2 (pv 2) (.inl (by rfl))) (db_of (de_ix (db_var 3 (pv 3) (.inl (by rfl))) (db_of (de_op or_add os_add (db_of (de_op or_mulX os_mulX (db_of de_int) (db_var 5 (pv 5) (.inl (by rfl))))) (db_of de_int))) (fun _ _ => rfl))) (fun _ _ => rfl)) da_nil)))))
  (ds_pub 4 (ds_one (ds_ret gok0 rfl (de_pub (de_lst (da_cons (de_var 4 (pv 4) rfl) (da_cons (de_pub (de_lc (own := [("_law_k", 5)]) rfl sc_l_free.nd (di_rng1 T.n_range (by rfl) (da_cons (de_ix (db_var 3 (pv 3) (.inl (by rfl))) (db_of de_int) (fun _ _ => rfl)) da_nil)) (blkOk_by (own := [("_law_k", 5)]) (N := ["_law_cell_here", "_law_kinds", "_law_marks", "_law_row_here", "_law_tests", "_law_k"]) (sc := defScope s_l_free) (by decide +kernel)) (fun _ _ _ _ _ => (dg_name 5 sc_l_free.nd rfl (by first | exact Or.inl rfl | exact Or.inr rfl))) (fun _ _ _ _ _ => dt_nil) (fun _ _ _ _ _ => (de_ix (db_own (de_lst (da_cons (de_strL (by decide +kernel)) (da_cons (de_strL (by decide +kernel)) (da_cons (de_strL (by decide +kernel)) da_nil))))) (db_of (de_ix (db_var 3 (pv 3) (.inl (by rfl))) (db_of (de_op or_add os_add (db_of (de_op or_mulX os_mulX (db_of de_int) (db_var 5 (pv 5) (.inl (by rfl))))) (db_of de_int))) (fun _ _ => rfl))) (fun _ _ => rfl))))) da_nil)))))) (.inl rfl))))
theorem ok_l_written (T : Txt w K mg) : FnOk P w K mg base (L2.CX P w) 1 T.f_l_written T.fd_l_written ["_law_tests", "_law_links"] (spD K T.cm [false, false] false F_l_written)   := dok (G' := []) (k := 0) T.F_l_written sc_l_written rfl (by decide) fun cdv A outer s H E hr =>
  (ds_cons (ds_set 2 gok0 sc_l_written.nd rfl (by first | exact Or.inl rfl | exact Or.inr rfl) (de_strL (by decide +kernel)))
  (ds_cons (ds_for gok0 (passes_of rfl) rfl (di_rng1 T.n_range (by rfl) (da_cons (de_bltn call_len cs_len (by rfl) T.n_len (by decide +kernel) (dm_bor (db_var 0 (pv 0) (.inl (by rfl))) dm_nil)) da_nil)) (dg_name 3 sc_l_written.nd rfl (by first | exact Or.inl rfl | exact Or.inr rfl))
  (ds_cons (ds_if gok0 (dt_cmp or_gt os_ord (db_var 3 (pv 3) (.inl (by rfl))) (db_of de_int) (nomark _))
  (ds_one (ds_set 2 gok0 sc_l_written.nd rfl (by first | exact Or.inl rfl | exact Or.inr rfl) (de_op or_add os_add (db_var 2 (pv 2) (.inl (by rfl))) (db_of (de_ix (db_var 1 (pv 1) (.inl (by rfl))) (db_of (de_op op_sub os_sub (db_var 3 (pv 3) (.inl (by rfl))) (db_of de_int))) (fun _ _ => rfl))))))
  ds_nil)
  (ds_cons (ds_set 2 gok0 sc_l_written.nd rfl (by first | exact Or.inl rfl | exact Or.inr rfl) (de_op or_add os_add (db_var 2 (pv 2) (.inl (by rfl))) (db_of (de_ix (db_of (de_ix (db_var 0 (pv 0) (.inl (by rfl))) (db_var 3 (pv 3) (.inl (by rfl))) (fun _ _ => rfl))) (db_of de_int) (fun _ _ => rfl)))))
  (ds_one (ds_if gok0 (dt_cmp (or_ne hr.units) os_ne (db_of (de_ix (db_of (de_ix (db_var 0 (pv 0) (.inl (by rfl))) (db_var 3 (pv 3) (.inl (by rfl))) (fun _ _ => rfl))) (db_of de_int) (fun _ _ => rfl))) (db_of (de_strL (by decide +kernel))) (nomark _))
  (ds_one (ds_set 2 gok0 sc_l_written.nd rfl (by first | exact Or.inl rfl | exact Or.inr rfl) (de_op or_add os_add (db_of (de_op or_add os_add (db_var 2 (pv 2) (.inl (by rfl))) (db_of (de_strL (by decide +kernel))))) (db_of (de_ix (db_of (de_ix (db_var 0 (pv 0) (.inl (by rfl))) (db_var 3 (pv 3) (.inl (by rfl))) (fun _ _ => rfl))) (db_of de_int) (fun _ _ => rfl))))))
  ds_nil)))))
  (ds_one (ds_ret gok0 rfl (de_var 2 (pv 2) rfl)))))
theorem ok_l_right (T : Txt w K mg) : FnOk P w K mg base (L2.CX P w) 7 T.f_l_right T.fd_l_right ["_law_pattern", "_law_tree_here", "_law_nodes_here", "_law_drawn", "_law_places"] (spD K T.cm [false, false, false, false, false] false F_l_right)   := dok (G' := []) (k := 6) T.F_l_right sc_l_right rfl (by decide) fun cdv A outer s H E hr =>
  (ds_cons (ds_for gok0 (passes_of rfl) rfl (di_list (de_var 4 (pv 4) rfl)) (dg_name 5 sc_l_right.nd rfl (by first | exact Or.inl rfl | exact Or.inr rfl))
  (ds_cons (ds_set 6 gok0 sc_l_right.nd rfl (by first | exact Or.inl rfl | exact Or.inr rfl) (de_callIV (rm := false) T.cm_Pattern T.co_Pattern (ok_Pattern_call T) (takes_of rfl rfl rfl rfl) (hr.mono (by decide)) T.b_Pattern_call (de_var 0 (pv 0) rfl) (dm_val (de_var 1 (pv 1) rfl) (dm_val (de_var 5 (pv 5) rfl) dm_nil))))
  (ds_cons (ds_if gok0 (dt_not (dt_val (de_isi "bool" T.n_isinstance (by rfl) (by rfl) T.n_bool (by decide +kernel) (db_var 6 (pv 6) (.inl (by rfl))))))
  (ds_one (ds_ret gok0 rfl de_bl))
  ds_nil)
  (ds_one (ds_if gok0 (dt_cmp (or_ne hr.units) os_ne (db_var 6 (pv 6) (.inl (by rfl))) (db_of (de_callV (ok_l_fits (n := 5) T) (takes_of rfl rfl rfl rfl) (hr.mono (by decide)) (by rfl) T.g_l_fits T.F_l_fits.kp T.b_l_fits (dm_val (de_var 2 (pv 2) rfl) (dm_val (de_ix (db_var 3 (pv 3) (.inl (by rfl))) (db_of de_int) (fun _ _ => rfl)) (dm_val (de_ix (db_var 3 (pv 3) (.inl (by rfl))) (db_of de_int) (fun _ _ => rfl)) (dm_val (de_var 5 (pv 5) rfl) (dm_val (de_op op_sub os_sub (db_of (de_bltn call_len cs_len (by rfl) T.n_len (by decide +kernel) (dm_bor (db_of (de_ix (db_var 3 (pv 3) (.inl (by rfl))) (db_of de_int) (fun _ _ => rfl))) dm_nil))) (db_of de_int)) dm_nil))))))) (nomark _))
  (ds_one (ds_ret gok0 rfl de_bl))
  ds_nil)))))
  (ds_one (ds_ret gok0 rfl de_bl)))
theorem ok_l_no_place (T : Txt w K mg) : FnOk P w K mg base (L2.CX P w) 6 T.f_l_no_place T.fd_l_no_place ["_law_pattern", "_law_tree_here", "_law_place"] (spD K T.cm [false, false, false] false F_l_no_place)   := dok (G' := []) (k := 5) T.F_l_no_place sc_l_no_place rfl (by decide) fun cdv A outer s H E hr =>
  (ds_cons (ds_try (isM := isM_NoPlace) (Gs := [.v, .v, .v, .v]) gok0 rfl rfl sc_l_no_place.nd rfl rfl ⟨by rfl, by decide, .inl T.g_NoPlace⟩ (takes_of rfl rfl rfl rfl) (by decide) T.exm_NoPlace (fun W pn xe tk po => (ds_one (ds_expr gokT (de_callIV (rm := false) T.cm_Pattern T.co_Pattern (ok_Pattern_call T) tk (hr.mono (by decide)) T.b_Pattern_call (de_var 0 (pv 0) rfl) (dm_val (de_var 1 (pv 1) rfl) (dm_val (de_var 2 (pv 2) rfl) dm_nil))))))
  (fun a C dd oe pn hin hz hf => (ds_cons (ds_if gokC (PW.pt (dw_or (dt_val (de_isX (v := .ref T.a_BadPattern) (cv := .ref T.a_BadPattern) (isM := isM_BadPattern) rfl (T.xc_of_NoPlace hin) hz hf (fun _ h => h) (fun n b h1 h2 => T.isi_BadPattern n _ b h1 h2) T.n_isinstance (by rfl) (pv 3) (pe_glob (by rfl) T.g_BadPattern rfl))) (dw_or (dt_not (dt_val (de_isX (v := .ref T.a_LaidError) (cv := .ref T.a_LaidError) (isM := isM_LaidError) rfl (T.xc_of_NoPlace hin) hz hf (fun _ h => h) (fun n b h1 h2 => T.isi_LaidError n _ b h1 h2) T.n_isinstance (by rfl) (pv 3) (pe_glob (by rfl) T.g_LaidError rfl)))) (dw_or1 (dt_not (dt_val (de_isX (v := .ty "ValueError") (cv := .type "ValueError") (isM := isM_ValueError) rfl (T.xc_of_NoPlace hin) hz hf (fun _ h => h) (fun n b h1 h2 => T.isi_ValueError n _ b h1 h2) T.n_isinstance (by rfl) (pv 3) (pe_bltn (u := .type "ValueError") (by rfl) T.n_ValueError (by decide +kernel) rfl))))))))
  (ds_one (ds_ret gokC rfl de_bl))
  ds_nil)
  (ds_one (ds_ret gokC rfl (de_and (de_isi "tuple" T.n_isinstance (by rfl) (by rfl) T.n_tuple (by decide +kernel) (db_of (de_xf (T.xf_of_NoPlace hin) (T.no_of_NoPlace_place hin) rfl hz hf (pv 3)))) (de_one (de_cmp (or_eq hr.units) os_eq (db_of (de_xf (T.xf_of_NoPlace hin) (T.no_of_NoPlace_place hin) rfl hz hf (pv 3))) (db_var 2 (pv 2) (.inl (by rfl))) (nomark _)))))))) rfl rfl)
  (ds_one (ds_ret gok0 rfl de_bl)))
theorem ok_law (T : Txt w K mg) : FnOk P w K mg base (L2.CX P w) 8 T.f_law T.fd_law ["_law_script"] (spD K T.cm [false] false F_law)   := dok (G' := []) (k := 7) T.F_law sc_law rfl (by decide) fun cdv A outer s H E hr =>
  (ds_cons (ds_set 1 gok0 sc_law.nd rfl (by first | exact Or.inl rfl | exact Or.inr rfl) (de_callV (ok_l_names T) (takes_of rfl rfl rfl rfl) (hr.mono (by decide)) (by rfl) T.g_l_names T.F_l_names.kp T.b_l_names (dm_val (de_callV (ok_l_cell T) (takes_of rfl rfl rfl rfl) (hr.mono (by decide)) (by rfl) T.g_l_cell T.F_l_cell.kp T.b_l_cell (dm_val (de_var 0 (pv 0) rfl) (dm_val de_int dm_nil))) (dm_val de_int dm_nil))))
  (ds_cons (ds_set 2 gok0 sc_law.nd rfl (by first | exact Or.inl rfl | exact Or.inr rfl) (de_pub (de_lst (da_cons (de_strL (by decide +kernel)) (da_cons (de_ix (db_var 1 (pv 1) (.inl (by rfl))) (db_of de_int) (fun _ _ => rfl)) (da_cons (de_ix (db_var 1 (pv 1) (.inl (by rfl))) (db_of de_int) (fun _ _ => rfl)) (da_cons (de_ix (db_var 1 (pv 1) (.inl (by rfl))) (db_of de_int) (fun _ _ => rfl)) da_nil)))))))
  (ds_cons (ds_set 3 gok0 sc_law.nd rfl (by first | exact Or.inl rfl | exact Or.inr rfl) (de_callV (ok_l_tree T) (takes_of rfl rfl rfl rfl) (hr.mono (by decide)) (by rfl) T.g_l_tree T.F_l_tree.kp T.b_l_tree (dm_val (de_callV (ok_l_cell T) (takes_of rfl rfl rfl rfl) (hr.mono (by decide)) (by rfl) T.g_l_cell T.F_l_cell.kp T.b_l_cell (dm_val (de_var 0 (pv 0) rfl) (dm_val de_int dm_nil))) (dm_val (de_sl (db_var 1 (pv 1) (.inl (by rfl))) dp_none (dp_some de_int)) (dm_val (de_var 2 (pv 2) rfl) dm_nil)))))
  (ds_cons (ds_set 4 gok0 sc_law.nd rfl (by first | exact Or.inl rfl | exact Or.inr rfl) (de_bltn call_len cs_len (by rfl) T.n_len (by decide +kernel) (dm_bor (db_of (de_ix (db_var 3 (pv 3) (.inl (by rfl))) (db_of de_int) (fun _ _ => rfl))) dm_nil)))
  (ds_cons (ds_set 5 gok0 sc_law.nd rfl (by first | exact Or.inl rfl | exact Or.inr rfl) (de_tup (da_cons (de_ix (db_var 3 (pv 3) (.inl (by rfl))) (db_of de_int) (fun _ _ => rfl)) (da_cons (de_ix (db_var 3 (pv 3) (.inl (by rfl))) (db_of de_int) (fun _ _ => rfl)) (da_cons (de_type call_tuple_of cs_tuple (by rfl) T.n_tuple (by decide +kernel) (dm_bor (db_own (de_lc (own := [("_law_k", 6)]) rfl sc_law.nd (di_rng1 T.n_range (by rfl) (da_cons (de_var 4 (pv 4) rfl) da_nil)) (blkOk_by (own := [("_law_k", 6)]) (N := ["_law_script", "_law_names_here", "_law_marks", "_law_tree_here", "_law_many", "_law_turned", "_law_k", "_law_nodes_here", "_law_texts", "_law_others", "_law_places", "_law_nowhere", "_law_place", "_law_drawn", "_law_one", "_law_pattern"]) (sc := defScope s_law) (by decide +kernel)) (fun _ _ _ _ _ => (dg_name 6 sc_law.nd rfl (by first | exact Or.inl rfl | exact Or.inr rfl))) (fun _ _ _ _ _ => dt_nil) (fun _ _ _ _ _ => (de_ix (db_of (de_ix (db_var 3 (pv 3) (.inl (by rfl))) (db_of de_int) (fun _ _ => rfl))) (db_of (de_op op_sub os_sub (db_of (de_op op_sub os_sub (db_var 4 (pv 4) (.inl (by rfl))) (db_of de_int))) (db_var 6 (pv 6) (.inl (by rfl))))) (fun _ _ => rfl))))) dm_nil)) da_nil)))))
  (ds_cons (ds_asg gok0 (de_callV (ok_l_nodes T) (takes_of rfl rfl rfl rfl) (hr.mono (by decide)) (by rfl) T.g_l_nodes T.F_l_nodes.kp T.b_l_nodes (dm_val (de_var 3 (pv 3) rfl) dm_nil)) (dg_lst rfl (dg_cons (dg_name 7 sc_law.nd rfl (by first | exact Or.inl rfl | exact Or.inr rfl)) (dg_cons (dg_name 8 sc_law.nd rfl (by first | exact Or.inl rfl | exact Or.inr rfl)) dg_nil))))
  (ds_cons (ds_set 9 gok0 sc_law.nd rfl (by first | exact Or.inl rfl | exact Or.inr rfl) (de_ix (db_of (de_callV (ok_l_nodes T) (takes_of rfl rfl rfl rfl) (hr.mono (by decide)) (by rfl) T.g_l_nodes T.F_l_nodes.kp T.b_l_nodes (dm_val (de_var 5 (pv 5) rfl) dm_nil))) (db_of de_int) (fun _ _ => rfl)))
  (ds_cons (ds_set 10 gok0 sc_law.nd rfl (by first | exact Or.inl rfl | exact Or.inr rfl) (de_pub (de_type (call_list_dT rfl) cs_listT (by rfl) T.n_list (by decide +kernel) (dm_bor (db_var 7 (pv 7) (.inl (by rfl))) dm_nil))))
  (ds_cons (ds_setO 11 gok0 (show 11 < 16 by decide) sc_law.nd rfl (by first | exact Or.inl rfl | exact Or.inr rfl) (de_op op_cat os_addL (db_own (de_lc (own := [("_law_place", 12)]) rfl sc_law.nd (di_list (de_sl (db_var 10 (pv 10) (.inl (by rfl))) dp_none (dp_some de_int))) (blkOk_by (own := [("_law_place", 12)]) (N := ["_law_script", "_law_names_here", "_law_marks", "_law_tree_here", "_law_many", "_law_turned", "_law_k", "_law_nodes_here", "_law_texts", "_law_others", "_law_places", "_law_nowhere", "_law_place", "_law_drawn", "_law_one", "_law_pattern"]) (sc := defScope s_law) (by decide +kernel)) (fun _ _ _ _ _ => (dg_name 12 sc_law.nd rfl (by first | exact Or.inl rfl | exact Or.inr rfl))) (fun _ _ _ _ _ => dt_nil) (fun _ _ _ _ _ => (de_op or_add os_add (db_var 12 (pv 12) (.inl (by rfl))) (db_of (de_tup (da_cons (de_ix (db_of (de_getZ hr (db_var 7 (pv 7) (.inl (by rfl))) (db_var 12 (pv 12) (.inl (by rfl))) (fun _ _ => rfl))) (db_of de_int) (fun _ _ => rfl)) da_nil))))))) (db_var 8 (pv 8) (.inl (by rfl)))))
  (ds_cons (ds_for gok0 (passes_of rfl) rfl (di_list (de_sl (db_var 8 (pv 8) (.inl (by rfl))) dp_none (dp_some de_int))) (dg_name 12 sc_law.nd rfl (by first | exact Or.inl rfl | exact Or.inr rfl))
  (ds_one (ds_app 11 gok0 rfl (pv 11) (de_op or_add os_add (db_var 12 (pv 12) (.inl (by rfl))) (db_of (de_tup (da_cons de_int da_nil)))))))
  (ds_cons (ds_setO 13 gok0 (show 13 < 16 by decide) sc_law.nd rfl (by first | exact Or.inl rfl | exact Or.inr rfl) (de_lst (da_cons (de_callV (ok_l_aimed T) (takes_of rfl rfl rfl rfl) (hr.mono (by decide)) (by rfl) T.g_l_aimed T.F_l_aimed.kp T.b_l_aimed (dm_val (de_callV (ok_l_cell T) (takes_of rfl rfl rfl rfl) (hr.mono (by decide)) (by rfl) T.g_l_cell T.F_l_cell.kp T.b_l_cell (dm_val (de_var 0 (pv 0) rfl) (dm_val de_int dm_nil))) (dm_val (de_var 7 (pv 7) rfl) dm_nil))) (da_cons (de_callV (ok_l_aimed T) (takes_of rfl rfl rfl rfl) (hr.mono (by decide)) (by rfl) T.g_l_aimed T.F_l_aimed.kp T.b_l_aimed (dm_val (de_callV (ok_l_cell T) (takes_of rfl rfl rfl rfl) (hr.mono (by decide)) (by rfl) T.g_l_cell T.F_l_cell.kp T.b_l_cell (dm_val (de_var 0 (pv 0) rfl) (dm_val de_int dm_nil))) (dm_val (de_var 7 (pv 7) rfl) dm_nil))) da_nil))))
  (ds_cons (ds_app 13 gok0 rfl (pv 13) (de_callV (ok_l_free T) (takes_of rfl rfl rfl rfl) (hr.mono (by decide)) (by rfl) T.g_l_free T.F_l_free.kp T.b_l_free (dm_val (de_callV (ok_l_cell T) (takes_of rfl rfl rfl rfl) (hr.mono (by decide)) (by rfl) T.g_l_cell T.F_l_cell.kp T.b_l_cell (dm_val (de_var 0 (pv 0) rfl) (dm_val de_int dm_nil))) (dm_val (de_op or_add os_add (db_of (de_sl (db_var 1 (pv 1) (.inl (by rfl))) dp_none (dp_some de_int))) (db_own (de_lst (da_cons (de_strL (by decide +kernel)) da_nil)))) (dm_val (de_var 2 (pv 2) rfl) dm_nil)))))
  (ds_pub 13 (ds_pub 11 (ds_cons (ds_for gok0 (passes_of rfl) rfl (di_list (de_var 13 (pv 13) rfl)) (dg_name 14 sc_law.nd rfl (by first | exact Or.inl rfl | exact Or.inr rfl))
  (ds_cons (ds_set 15 gok0 sc_law.nd rfl (by first | exact Or.inl rfl | exact Or.inr rfl) (de_pub (de_make T.mk_Pattern (ok_Pattern_init T) (takes_of rfl rfl rfl rfl) (hr.mono (by decide)) (by rfl) T.g_Pattern T.b_Pattern_init (dm_val (de_callV (ok_l_written T) (takes_of rfl rfl rfl rfl) (hr.mono (by decide)) (by rfl) T.g_l_written T.F_l_written.kp T.b_l_written (dm_val (de_ix (db_var 14 (pv 14) (.inl (by rfl))) (db_of de_int) (fun _ _ => rfl)) (dm_val (de_ix (db_var 14 (pv 14) (.inl (by rfl))) (db_of de_int) (fun _ _ => rfl)) dm_nil))) dm_nil))))
  (ds_cons (ds_if gok0 (dt_not (dt_val (de_callV (ok_l_right T) (takes_of rfl rfl rfl rfl) (hr.mono (by decide)) (by rfl) T.g_l_right T.F_l_right.kp T.b_l_right (dm_val (de_var 15 (pv 15) rfl) (dm_val (de_var 3 (pv 3) rfl) (dm_val (de_var 7 (pv 7) rfl) (dm_val (de_var 14 (pv 14) rfl) (dm_val (de_var 10 (pv 10) rfl) dm_nil))))))))
  (ds_one (ds_ret gok0 rfl de_bl))
  ds_nil)
  (ds_cons (ds_if gok0 (dt_not (dt_val (de_callV (ok_l_right T) (takes_of rfl rfl rfl rfl) (hr.mono (by decide)) (by rfl) T.g_l_right T.F_l_right.kp T.b_l_right (dm_val (de_var 15 (pv 15) rfl) (dm_val (de_var 5 (pv 5) rfl) (dm_val (de_var 9 (pv 9) rfl) (dm_val (de_var 14 (pv 14) rfl) (dm_val (de_pub (de_type (call_list_dT rfl) cs_listT (by rfl) T.n_list (by decide +kernel) (dm_bor (db_var 9 (pv 9) (.inl (by rfl))) dm_nil))) dm_nil))))))))
  (ds_one (ds_ret gok0 rfl de_bl))
  ds_nil)
  (ds_cons (ds_if gok0 (dt_not (dt_val (de_callV (ok_l_right T) (takes_of rfl rfl rfl rfl) (hr.mono (by decide)) (by rfl) T.g_l_right T.F_l_right.kp T.b_l_right (dm_val (de_var 15 (pv 15) rfl) (dm_val (de_var 3 (pv 3) rfl) (dm_val (de_var 7 (pv 7) rfl) (dm_val (de_var 14 (pv 14) rfl) (dm_val (de_sl (db_var 10 (pv 10) (.inl (by rfl))) (dp_some (de_op op_sub os_sub (db_of (de_bltn call_len cs_len (by rfl) T.n_len (by decide +kernel) (dm_bor (db_var 10 (pv 10) (.inl (by rfl))) dm_nil))) (db_of de_int))) dp_none) dm_nil))))))))
  (ds_one (ds_ret gok0 rfl de_bl))
  ds_nil)
  (ds_one (ds_for gok0 (passes_of rfl) rfl (di_list (de_var 11 (pv 11) rfl)) (dg_name 12 sc_law.nd rfl (by first | exact Or.inl rfl | exact Or.inr rfl))
  (ds_one (ds_if gok0 (dt_not (dt_val (de_callV (ok_l_no_place T) (takes_of rfl rfl rfl rfl) (hr.mono (by decide)) (by rfl) T.g_l_no_place T.F_l_no_place.kp T.b_l_no_place (dm_val (de_var 15 (pv 15) rfl) (dm_val (de_var 3 (pv 3) rfl) (dm_val (de_var 12 (pv 12) rfl) dm_nil))))))
  (ds_one (ds_ret gok0 rfl de_bl))
  ds_nil)))))))))
  (ds_one (ds_ret gok0 rfl de_bl))) (.inl rfl)) (.inl rfl))))))))))))))
end
end Lk
end S_P_walk
section S_P_end
set_option Elab.async false
set_option linter.all false
set_option maxRecDepth 100000
set_option maxHeartbeats 4000000
namespace Lk
open PySem L2 Dx PySem.Spec PyProof.Rows
theorem txt_mk {w : World} {K : PySem.W.Frag} {h : Heap} {mg : Str → Option Value} (X : K.In h) (G : h.Ns mainGlobals mg)
    {f0 : Addr} {oc0 kV0 dc0 pm0 cd0 ct0 : Value} {od0 an0 : Option Addr} {sl0 : Array (Option Value)}
    {f1 : Addr} {oc1 kV1 dc1 pm1 cd1 ct1 : Value} {od1 an1 : Option Addr} {sl1 : Array (Option Value)}
    {f2 : Addr} {oc2 kV2 dc2 pm2 cd2 ct2 : Value} {od2 an2 : Option Addr} {sl2 : Array (Option Value)}
    {f3 : Addr} {oc3 kV3 dc3 pm3 cd3 ct3 : Value} {od3 an3 : Option Addr} {sl3 : Array (Option Value)}
    {f4 : Addr} {oc4 kV4 dc4 pm4 cd4 ct4 : Value} {od4 an4 : Option Addr} {sl4 : Array (Option Value)}
    {f5 : Addr} {oc5 kV5 dc5 pm5 cd5 ct5 : Value} {od5 an5 : Option Addr} {sl5 : Array (Option Value)}
    {f6 : Addr} {oc6 kV6 dc6 pm6 cd6 ct6 : Value} {od6 an6 : Option Addr} {sl6 : Array (Option Value)}
    {f7 : Addr} {oc7 kV7 dc7 pm7 cd7 ct7 : Value} {od7 an7 : Option Addr} {sl7 : Array (Option Value)}
    {f8 : Addr} {oc8 kV8 dc8 pm8 cd8 ct8 : Value} {od8 an8 : Option Addr} {sl8 : Array (Option Value)}
    {f9 : Addr} {oc9 kV9 dc9 pm9 cd9 ct9 : Value} {od9 an9 : Option Addr} {sl9 : Array (Option Value)}
    {f10 : Addr} {oc10 kV10 dc10 pm10 cd10 ct10 : Value} {od10 an10 : Option Addr} {sl10 : Array (Option Value)}
    {f11 : Addr} {oc11 kV11 dc11 pm11 cd11 ct11 : Value} {od11 an11 : Option Addr} {sl11 : Array (Option Value)}
    {f12 : Addr} {oc12 kV12 dc12 pm12 cd12 ct12 : Value} {od12 an12 : Option Addr} {sl12 : Array (Option Value)}
    {f13 : Addr} {oc13 kV13 dc13 pm13 cd13 ct13 : Value} {od13 an13 : Option Addr} {sl13 : Array (Option Value)}
    {f14 : Addr} {oc14 kV14 dc14 pm14 cd14 ct14 : Value} {od14 an14 : Option Addr} {sl14 : Array (Option Value)}
    {f15 : Addr} {oc15 kV15 dc15 pm15 cd15 ct15 : Value} {od15 an15 : Option Addr} {sl15 : Array (Option Value)}
    {f16 : Addr} {oc16 kV16 dc16 pm16 cd16 ct16 : Value} {od16 an16 : Option Addr} {sl16 : Array (Option Value)}
    {f17 : Addr} {oc17 kV17 dc17 pm17 cd17 ct17 : Value} {od17 an17 : Option Addr} {sl17 : Array (Option Value)}
    {f18 : Addr} {oc18 kV18 dc18 pm18 cd18 ct18 : Value} {od18 an18 : Option Addr} {sl18 : Array (Option Value)}
    {f19 : Addr} {oc19 kV19 dc19 pm19 cd19 ct19 : Value} {od19 an19 : Option Addr} {sl19 : Array (Option Value)}
    {f20 : Addr} {oc20 kV20 dc20 pm20 cd20 ct20 : Value} {od20 an20 : Option Addr} {sl20 : Array (Option Value)}
    {f21 : Addr} {oc21 kV21 dc21 pm21 cd21 ct21 : Value} {od21 an21 : Option Addr} {sl21 : Array (Option Value)}
    {t_LETTERS : Tok}
    {t_MOST_TESTS : Tok}
    {kA_LINKS_0 : Addr} {kn_LINKS_0 : Nat}
    {kh_LINKS_0 : Int} {kt_LINKS_0 : Tok}
    {kv_LINKS_0 : Tok}
    {kh_LINKS_1 : Int} {kt_LINKS_1 : Tok}
    {kv_LINKS_1 : Tok}
    {A_BadPattern : Addr}
    {A_LaidError : Addr}
    {A_NoPlace : Addr}
    {nm_BadPattern qq_BadPattern : Str} {N_BadPattern fI_BadPattern : Addr} {bs_BadPattern bm_BadPattern : List Value} {sn_BadPattern : List Str} {sb_BadPattern : List Value} {ab_BadPattern : Bool} {co_BadPattern : Option Bool} {dd_BadPattern od_BadPattern an_BadPattern : Option Addr} {m0_BadPattern m1_BadPattern m2_BadPattern m3_BadPattern m5_BadPattern : Option Value} {oc_BadPattern kV_BadPattern dc_BadPattern pm_BadPattern cd_BadPattern ct_BadPattern : Value} {sl_BadPattern : Array (Option Value)}
    {nm_NoPlace qq_NoPlace : Str} {N_NoPlace fI_NoPlace : Addr} {bs_NoPlace bm_NoPlace : List Value} {sn_NoPlace : List Str} {sb_NoPlace : List Value} {ab_NoPlace : Bool} {co_NoPlace : Option Bool} {dd_NoPlace od_NoPlace an_NoPlace : Option Addr} {m0_NoPlace m1_NoPlace m2_NoPlace m3_NoPlace m5_NoPlace : Option Value} {oc_NoPlace kV_NoPlace dc_NoPlace pm_NoPlace cd_NoPlace ct_NoPlace : Value} {sl_NoPlace : Array (Option Value)}
    {A_Pattern : Addr}
    {A_Points : Addr}
    (a0 : PySem.W.nsIn K mainGlobals "is_name" = some (some (.ref f0)))
    (l0 : K.lookup f0 = some ⟨oc0, od0, .func (PySem.W.fnOf "is_name" "is_name" (defArgs s_is_name) (defBody s_is_name) (defScope s_is_name) .none kV0 dc0 pm0 an0 cd0 ct0), sl0⟩) (c0 : PySem.W.codeIn K cd0 "is_name" = true) (k0 : PySem.W.keepIn K (.ref f0) = true)
    (a1 : PySem.W.nsIn K mainGlobals "node_at" = some (some (.ref f1)))
    (l1 : K.lookup f1 = some ⟨oc1, od1, .func (PySem.W.fnOf "node_at" "node_at" (defArgs s_node_at) (defBody s_node_at) (defScope s_node_at) .none kV1 dc1 pm1 an1 cd1 ct1), sl1⟩) (c1 : PySem.W.codeIn K cd1 "node_at" = true) (k1 : PySem.W.keepIn K (.ref f1) = true)
    (a2 : PySem.W.nsIn K mainGlobals "read_test" = some (some (.ref f2)))
    (l2 : K.lookup f2 = some ⟨oc2, od2, .func (PySem.W.fnOf "read_test" "read_test" (defArgs s_read_test) (defBody s_read_test) (defScope s_read_test) .none kV2 dc2 pm2 an2 cd2 ct2), sl2⟩) (c2 : PySem.W.codeIn K cd2 "read_test" = true) (k2 : PySem.W.keepIn K (.ref f2) = true)
    (a3 : PySem.W.nsIn K mainGlobals "read_pattern" = some (some (.ref f3)))
    (l3 : K.lookup f3 = some ⟨oc3, od3, .func (PySem.W.fnOf "read_pattern" "read_pattern" (defArgs s_read_pattern) (defBody s_read_pattern) (defScope s_read_pattern) .none kV3 dc3 pm3 an3 cd3 ct3), sl3⟩) (c3 : PySem.W.codeIn K cd3 "read_pattern" = true) (k3 : PySem.W.keepIn K (.ref f3) = true)
    (l4 : K.lookup f4 = some ⟨oc4, od4, .func (PySem.W.fnOf "__init__" "Points.__init__" (defArgs s_Points_init) (defBody s_Points_init) (defScope s_Points_init) .none kV4 dc4 pm4 an4 cd4 ct4), sl4⟩) (c4 : PySem.W.codeIn K cd4 "Points.__init__" = true) (k4 : PySem.W.keepIn K (.ref f4) = true)
    (l5 : K.lookup f5 = some ⟨oc5, od5, .func (PySem.W.fnOf "passed" "Points.passed" (defArgs s_Points_passed) (defBody s_Points_passed) (defScope s_Points_passed) .none kV5 dc5 pm5 an5 cd5 ct5), sl5⟩) (c5 : PySem.W.codeIn K cd5 "Points.passed" = true) (k5 : PySem.W.keepIn K (.ref f5) = true)
    (l6 : K.lookup f6 = some ⟨oc6, od6, .func (PySem.W.fnOf "here" "Points.here" (defArgs s_Points_here) (defBody s_Points_here) (defScope s_Points_here) .none kV6 dc6 pm6 an6 cd6 ct6), sl6⟩) (c6 : PySem.W.codeIn K cd6 "Points.here" = true) (k6 : PySem.W.keepIn K (.ref f6) = true)
    (l7 : K.lookup f7 = some ⟨oc7, od7, .func (PySem.W.fnOf "bits_at" "Points.bits_at" (defArgs s_Points_bits_at) (defBody s_Points_bits_at) (defScope s_Points_bits_at) .none kV7 dc7 pm7 an7 cd7 ct7), sl7⟩) (c7 : PySem.W.codeIn K cd7 "Points.bits_at" = true) (k7 : PySem.W.keepIn K (.ref f7) = true)
    (l8 : K.lookup f8 = some ⟨oc8, od8, .func (PySem.W.fnOf "__init__" "Pattern.__init__" (defArgs s_Pattern_init) (defBody s_Pattern_init) (defScope s_Pattern_init) .none kV8 dc8 pm8 an8 cd8 ct8), sl8⟩) (c8 : PySem.W.codeIn K cd8 "Pattern.__init__" = true) (k8 : PySem.W.keepIn K (.ref f8) = true)
    (l9 : K.lookup f9 = some ⟨oc9, od9, .func (PySem.W.fnOf "__call__" "Pattern.__call__" (defArgs s_Pattern_call) (defBody s_Pattern_call) (defScope s_Pattern_call) .none kV9 dc9 pm9 an9 cd9 ct9), sl9⟩) (c9 : PySem.W.codeIn K cd9 "Pattern.__call__" = true) (k9 : PySem.W.keepIn K (.ref f9) = true)
    (a10 : PySem.W.nsIn K mainGlobals "_law_cell" = some (some (.ref f10)))
    (l10 : K.lookup f10 = some ⟨oc10, od10, .func (PySem.W.fnOf "_law_cell" "_law_cell" (defArgs s_l_cell) (defBody s_l_cell) (defScope s_l_cell) .none kV10 dc10 pm10 an10 cd10 ct10), sl10⟩) (c10 : PySem.W.codeIn K cd10 "_law_cell" = true) (k10 : PySem.W.keepIn K (.ref f10) = true)
    (a11 : PySem.W.nsIn K mainGlobals "_law_row" = some (some (.ref f11)))
    (l11 : K.lookup f11 = some ⟨oc11, od11, .func (PySem.W.fnOf "_law_row" "_law_row" (defArgs s_l_row) (defBody s_l_row) (defScope s_l_row) .none kV11 dc11 pm11 an11 cd11 ct11), sl11⟩) (c11 : PySem.W.codeIn K cd11 "_law_row" = true) (k11 : PySem.W.keepIn K (.ref f11) = true)
    (a12 : PySem.W.nsIn K mainGlobals "_law_names" = some (some (.ref f12)))
    (l12 : K.lookup f12 = some ⟨oc12, od12, .func (PySem.W.fnOf "_law_names" "_law_names" (defArgs s_l_names) (defBody s_l_names) (defScope s_l_names) .none kV12 dc12 pm12 an12 cd12 ct12), sl12⟩) (c12 : PySem.W.codeIn K cd12 "_law_names" = true) (k12 : PySem.W.keepIn K (.ref f12) = true)
    (a13 : PySem.W.nsIn K mainGlobals "_law_tree" = some (some (.ref f13)))
    (l13 : K.lookup f13 = some ⟨oc13, od13, .func (PySem.W.fnOf "_law_tree" "_law_tree" (defArgs s_l_tree) (defBody s_l_tree) (defScope s_l_tree) .none kV13 dc13 pm13 an13 cd13 ct13), sl13⟩) (c13 : PySem.W.codeIn K cd13 "_law_tree" = true) (k13 : PySem.W.keepIn K (.ref f13) = true)
    (a14 : PySem.W.nsIn K mainGlobals "_law_nodes" = some (some (.ref f14)))
    (l14 : K.lookup f14 = some ⟨oc14, od14, .func (PySem.W.fnOf "_law_nodes" "_law_nodes" (defArgs s_l_nodes) (defBody s_l_nodes) (defScope s_l_nodes) .none kV14 dc14 pm14 an14 cd14 ct14), sl14⟩) (c14 : PySem.W.codeIn K cd14 "_law_nodes" = true) (k14 : PySem.W.keepIn K (.ref f14) = true)
    (a15 : PySem.W.nsIn K mainGlobals "_law_fits" = some (some (.ref f15)))
    (l15 : K.lookup f15 = some ⟨oc15, od15, .func (PySem.W.fnOf "_law_fits" "_law_fits" (defArgs s_l_fits) (defBody s_l_fits) (defScope s_l_fits) .none kV15 dc15 pm15 an15 cd15 ct15), sl15⟩) (c15 : PySem.W.codeIn K cd15 "_law_fits" = true) (k15 : PySem.W.keepIn K (.ref f15) = true)
    (a16 : PySem.W.nsIn K mainGlobals "_law_aimed" = some (some (.ref f16)))
    (l16 : K.lookup f16 = some ⟨oc16, od16, .func (PySem.W.fnOf "_law_aimed" "_law_aimed" (defArgs s_l_aimed) (defBody s_l_aimed) (defScope s_l_aimed) .none kV16 dc16 pm16 an16 cd16 ct16), sl16⟩) (c16 : PySem.W.codeIn K cd16 "_law_aimed" = true) (k16 : PySem.W.keepIn K (.ref f16) = true)
    (a17 : PySem.W.nsIn K mainGlobals "_law_free" = some (some (.ref f17)))
    (l17 : K.lookup f17 = some ⟨oc17, od17, .func (PySem.W.fnOf "_law_free" "_law_free" (defArgs s_l_free) (defBody s_l_free) (defScope s_l_free) .none kV17 dc17 pm17 an17 cd17 ct17), sl17⟩) (c17 : PySem.W.codeIn K cd17 "_law_free" = true) (k17 : PySem.W.keepIn K (.ref f17) = true)
    (a18 : PySem.W.nsIn K mainGlobals "_law_written" = some (some (.ref f18)))
    (l18 : K.lookup f18 = some ⟨oc18, od18, .func (PySem.W.fnOf "_law_written" "_law_written" (defArgs s_l_written) (defBody s_l_written) (defScope s_l_written) .none kV18 dc18 pm18 an18 cd18 ct18), sl18⟩) (c18 : PySem.W.codeIn K cd18 "_law_written" = true) (k18 : PySem.W.keepIn K (.ref f18) = true)
    (a19 : PySem.W.nsIn K mainGlobals "_law_right" = some (some (.ref f19)))
    (l19 : K.lookup f19 = some ⟨oc19, od19, .func (PySem.W.fnOf "_law_right" "_law_right" (defArgs s_l_right) (defBody s_l_right) (defScope s_l_right) .none kV19 dc19 pm19 an19 cd19 ct19), sl19⟩) (c19 : PySem.W.codeIn K cd19 "_law_right" = true) (k19 : PySem.W.keepIn K (.ref f19) = true)
    (a20 : PySem.W.nsIn K mainGlobals "_law_no_place" = some (some (.ref f20)))
    (l20 : K.lookup f20 = some ⟨oc20, od20, .func (PySem.W.fnOf "_law_no_place" "_law_no_place" (defArgs s_l_no_place) (defBody s_l_no_place) (defScope s_l_no_place) .none kV20 dc20 pm20 an20 cd20 ct20), sl20⟩) (c20 : PySem.W.codeIn K cd20 "_law_no_place" = true) (k20 : PySem.W.keepIn K (.ref f20) = true)
    (a21 : PySem.W.nsIn K mainGlobals "law" = some (some (.ref f21)))
    (l21 : K.lookup f21 = some ⟨oc21, od21, .func (PySem.W.fnOf "law" "law" (defArgs s_law) (defBody s_law) (defScope s_law) .none kV21 dc21 pm21 an21 cd21 ct21), sl21⟩) (c21 : PySem.W.codeIn K cd21 "law" = true) (k21 : PySem.W.keepIn K (.ref f21) = true)
    (z_ValueError : PySem.W.nsIn K mainGlobals "ValueError" = some none)
    (z_bool : PySem.W.nsIn K mainGlobals "bool" = some none)
    (z_int : PySem.W.nsIn K mainGlobals "int" = some none)
    (z_isinstance : PySem.W.nsIn K mainGlobals "isinstance" = some none)
    (z_len : PySem.W.nsIn K mainGlobals "len" = some none)
    (z_list : PySem.W.nsIn K mainGlobals "list" = some none)
    (z_max : PySem.W.nsIn K mainGlobals "max" = some none)
    (z_range : PySem.W.nsIn K mainGlobals "range" = some none)
    (z_str : PySem.W.nsIn K mainGlobals "str" = some none)
    (z_tuple : PySem.W.nsIn K mainGlobals "tuple" = some none)
    (z_zip : PySem.W.nsIn K mainGlobals "zip" = some none)
    (y_LETTERS : PySem.W.nsIn K mainGlobals "LETTERS" = some (some (.str "abcdefghijklmnopqrstuvwxyz" t_LETTERS)))
    (y_MOST_TESTS : PySem.W.nsIn K mainGlobals "MOST_TESTS" = some (some (.int 4 t_MOST_TESTS)))
    (y_LINKS : PySem.W.nsIn K mainGlobals "LINKS" = some (some (.ref kA_LINKS_0)))
    (kl_LINKS_0 : K.lookup kA_LINKS_0 = some ⟨.type "dict", none, .dict #[⟨kh_LINKS_0, .str ">" kt_LINKS_0, .str "parent" kv_LINKS_0⟩, ⟨kh_LINKS_1, .str "+" kt_LINKS_1, .str "elder" kv_LINKS_1⟩] kn_LINKS_0, #[]⟩)
    (kk_LINKS : PySem.W.KeysLit w.params [⟨kh_LINKS_0, .str ">" kt_LINKS_0, .str "parent" kv_LINKS_0⟩, ⟨kh_LINKS_1, .str "+" kt_LINKS_1, .str "elder" kv_LINKS_1⟩])
    (km_LINKS : (kA_LINKS_0 == sysModules) = false)
    (x_BadPattern : PySem.W.nsIn K mainGlobals "BadPattern" = some (some (.ref A_BadPattern)))
    (x_LaidError : PySem.W.nsIn K mainGlobals "LaidError" = some (some (.ref A_LaidError)))
    (x_NoPlace : PySem.W.nsIn K mainGlobals "NoPlace" = some (some (.ref A_NoPlace)))
    (X1_BadPattern : K.lookup A_BadPattern = some (excClassObj nm_BadPattern qq_BadPattern A_BadPattern N_BadPattern bs_BadPattern bm_BadPattern true sn_BadPattern sb_BadPattern ab_BadPattern co_BadPattern dd_BadPattern m0_BadPattern m1_BadPattern m2_BadPattern m3_BadPattern m5_BadPattern "ValueError.__new__")) (X2_BadPattern : PySem.HandSPX.refsVE bm_BadPattern = true)
    (X3_BadPattern : PySem.W.findIn K (.ref A_BadPattern) "__setattr__" = some (some (.builtin "object.__setattr__"))) (X4_BadPattern : PySem.W.subIn K (.ref A_BadPattern) (.type "BaseException") = some true) (X5_BadPattern : PySem.W.typeIn K (.ref A_BadPattern) = some (.type "type")) (X6_BadPattern : PySem.W.keepIn K (.ref A_BadPattern) = true)
    (X7_BadPattern : PySem.W.findIn K (.ref A_BadPattern) "__init__" = some (some (.ref fI_BadPattern))) (X8_BadPattern : PySem.W.typeIn K (.ref fI_BadPattern) = some (.type "function")) (X9_BadPattern : K.lookup fI_BadPattern = some ⟨oc_BadPattern, od_BadPattern, .func (PySem.W.fnOf "__init__" "BadPattern.__init__" (defArgs s_BadPattern) (defBody s_BadPattern) (defScope s_BadPattern) .none kV_BadPattern dc_BadPattern pm_BadPattern an_BadPattern cd_BadPattern ct_BadPattern), sl_BadPattern⟩) (Xa_BadPattern : PySem.W.codeIn K cd_BadPattern "BadPattern.__init__" = true) (Xb_BadPattern : PySem.W.keepIn K (.ref fI_BadPattern) = true)
    (Y0_BadPattern : PySem.W.findIn K (.ref A_BadPattern) "text" = some none)
    (Xc_BadPattern : PySem.W.findIn K (.ref A_BadPattern) "__getattribute__" = some (some (.builtin "BaseException.__getattribute__"))) (Xd_BadPattern : PySem.W.findIn K (.ref A_BadPattern) "__getattr__" = some none) (Xe_BadPattern : PySem.W.hasDictIn K A_BadPattern = true)
    (Xf_BadPattern : PySem.W.findIn K (.ref A_BadPattern) "__class__" = some (some (.builtin "object.__class__"))) (Xg_BadPattern : PySem.W.specialIn K (.builtin "object.__class__") "__get__" = some (some (.builtin "getset_descriptor.__get__"))) (Xh_BadPattern : PySem.W.takesIn K (.builtin "object.__class__") = some true) (Xi_BadPattern : PySem.W.mroIn K A_BadPattern (.type "object") = some true)
    (E_BadPattern_NoPlace : PySem.W.exmOne K (.ref A_BadPattern) (.ref A_NoPlace) = some false)
    (Q_BadPattern_BadPattern : PySem.W.kitOne K (.ref A_BadPattern) (.ref A_BadPattern) = some true)
    (Q_BadPattern_LaidError : PySem.W.kitOne K (.ref A_BadPattern) (.ref A_LaidError) = some true)
    (Q_BadPattern_ValueError : PySem.W.kitOne K (.ref A_BadPattern) (.type "ValueError") = some true)
    (X1_NoPlace : K.lookup A_NoPlace = some (excClassObj nm_NoPlace qq_NoPlace A_NoPlace N_NoPlace bs_NoPlace bm_NoPlace true sn_NoPlace sb_NoPlace ab_NoPlace co_NoPlace dd_NoPlace m0_NoPlace m1_NoPlace m2_NoPlace m3_NoPlace m5_NoPlace "ValueError.__new__")) (X2_NoPlace : PySem.HandSPX.refsVE bm_NoPlace = true)
    (X3_NoPlace : PySem.W.findIn K (.ref A_NoPlace) "__setattr__" = some (some (.builtin "object.__setattr__"))) (X4_NoPlace : PySem.W.subIn K (.ref A_NoPlace) (.type "BaseException") = some true) (X5_NoPlace : PySem.W.typeIn K (.ref A_NoPlace) = some (.type "type")) (X6_NoPlace : PySem.W.keepIn K (.ref A_NoPlace) = true)
    (X7_NoPlace : PySem.W.findIn K (.ref A_NoPlace) "__init__" = some (some (.ref fI_NoPlace))) (X8_NoPlace : PySem.W.typeIn K (.ref fI_NoPlace) = some (.type "function")) (X9_NoPlace : K.lookup fI_NoPlace = some ⟨oc_NoPlace, od_NoPlace, .func (PySem.W.fnOf "__init__" "NoPlace.__init__" (defArgs s_NoPlace) (defBody s_NoPlace) (defScope s_NoPlace) .none kV_NoPlace dc_NoPlace pm_NoPlace an_NoPlace cd_NoPlace ct_NoPlace), sl_NoPlace⟩) (Xa_NoPlace : PySem.W.codeIn K cd_NoPlace "NoPlace.__init__" = true) (Xb_NoPlace : PySem.W.keepIn K (.ref fI_NoPlace) = true)
    (Y0_NoPlace : PySem.W.findIn K (.ref A_NoPlace) "place" = some none)
    (Xc_NoPlace : PySem.W.findIn K (.ref A_NoPlace) "__getattribute__" = some (some (.builtin "BaseException.__getattribute__"))) (Xd_NoPlace : PySem.W.findIn K (.ref A_NoPlace) "__getattr__" = some none) (Xe_NoPlace : PySem.W.hasDictIn K A_NoPlace = true)
    (Xf_NoPlace : PySem.W.findIn K (.ref A_NoPlace) "__class__" = some (some (.builtin "object.__class__"))) (Xg_NoPlace : PySem.W.specialIn K (.builtin "object.__class__") "__get__" = some (some (.builtin "getset_descriptor.__get__"))) (Xh_NoPlace : PySem.W.takesIn K (.builtin "object.__class__") = some true) (Xi_NoPlace : PySem.W.mroIn K A_NoPlace (.type "object") = some true)
    (E_NoPlace_NoPlace : PySem.W.exmOne K (.ref A_NoPlace) (.ref A_NoPlace) = some true)
    (Q_NoPlace_BadPattern : PySem.W.kitOne K (.ref A_NoPlace) (.ref A_BadPattern) = some false)
    (Q_NoPlace_LaidError : PySem.W.kitOne K (.ref A_NoPlace) (.ref A_LaidError) = some true)
    (Q_NoPlace_ValueError : PySem.W.kitOne K (.ref A_NoPlace) (.type "ValueError") = some true)
    (x_Pattern : PySem.W.nsIn K mainGlobals "Pattern" = some (some (.ref A_Pattern))) (P1_Pattern : PySem.W.plainGet K A_Pattern Str.empty = true) (P2_Pattern : PySem.W.hasDictIn K A_Pattern = true) (P3_Pattern : PySem.W.plainOver K A_Pattern = true) (P4_Pattern : PySem.W.findIn K (.ref A_Pattern) "__setattr__" = some (some (.builtin "object.__setattr__")))
    (x_Points : PySem.W.nsIn K mainGlobals "Points" = some (some (.ref A_Points))) (P1_Points : PySem.W.plainGet K A_Points Str.empty = true) (P2_Points : PySem.W.hasDictIn K A_Points = true) (P3_Points : PySem.W.plainOver K A_Points = true) (P4_Points : PySem.W.findIn K (.ref A_Points) "__setattr__" = some (some (.builtin "object.__setattr__")))
    (M1_Pattern : PySem.W.makesIn K A_Pattern = true) (M2_Pattern : PySem.W.findIn K (.ref A_Pattern) "__init__" = some (some (.ref f8))) (M3_Pattern : PySem.W.isFn K (.ref f8) = true) (M4_Pattern : PySem.W.keepIn K (.ref A_Pattern) = true)
    (M1_Points : PySem.W.makesIn K A_Points = true) (M2_Points : PySem.W.findIn K (.ref A_Points) "__init__" = some (some (.ref f4))) (M3_Points : PySem.W.isFn K (.ref f4) = true) (M4_Points : PySem.W.keepIn K (.ref A_Points) = true)
    (N_Pattern_links : PySem.W.findIn K (.ref A_Pattern) "links" = some none)
    (N_Pattern_tests : PySem.W.findIn K (.ref A_Pattern) "tests" = some none)
    (N_Pattern_text : PySem.W.findIn K (.ref A_Pattern) "text" = some none)
    (N_Points_ends : PySem.W.findIn K (.ref A_Points) "ends" = some none)
    (N_Points_linked : PySem.W.findIn K (.ref A_Points) "linked" = some none)
    (N_Points_tests : PySem.W.findIn K (.ref A_Points) "tests" = some none)
    (m1_Pattern___call__ : PySem.W.findIn K (.ref A_Pattern) "__call__" = some (some (.ref f9))) (m2_Pattern___call__ : PySem.W.isFn K (.ref f9) = true)
    (m1_Points_bits_at : PySem.W.findIn K (.ref A_Points) "bits_at" = some (some (.ref f7))) (m2_Points_bits_at : PySem.W.isFn K (.ref f7) = true)
    (m1_Points_here : PySem.W.findIn K (.ref A_Points) "here" = some (some (.ref f6))) (m2_Points_here : PySem.W.isFn K (.ref f6) = true)
    (m1_Points_passed : PySem.W.findIn K (.ref A_Points) "passed" = some (some (.ref f5))) (m2_Points_passed : PySem.W.isFn K (.ref f5) = true)
    (O1_Pattern : PySem.W.findIn K (.ref A_Pattern) "__call__" = some (some (.ref f9))) (O2_Pattern : PySem.W.isFn K (.ref f9) = true) (O3_Pattern : PySem.W.fnIn K f9 = true) : ∃ T : Txt w K mg, T.f_law = f21 ∧ T.fd_law = PySem.W.fnOf "law" "law" (defArgs s_law) (defBody s_law) (defScope s_law) .none kV21 dc21 pm21 an21 cd21 ct21 := by
  have F0 := fun_mk (st := s_is_name) l0 c0 k0
  have b0 := F0.binds (ps := ["text"]) fun _ _ _ _ _ _ us hl => match us, hl with | [_], _ => rfl
  have F1 := fun_mk (st := s_node_at) l1 c1 k1
  have b1 := F1.binds (ps := ["tree", "place"]) fun _ _ _ _ _ _ us hl => match us, hl with | [_, _], _ => rfl
  have F2 := fun_mk (st := s_read_test) l2 c2 k2
  have b2 := F2.binds (ps := ["word"]) fun _ _ _ _ _ _ us hl => match us, hl with | [_], _ => rfl
  have F3 := fun_mk (st := s_read_pattern) l3 c3 k3
  have b3 := F3.binds (ps := ["text"]) fun _ _ _ _ _ _ us hl => match us, hl with | [_], _ => rfl
  have F4 := fun_mk (st := s_Points_init) l4 c4 k4
  have b4 := F4.binds (ps := ["self", "patterns"]) fun _ _ _ _ _ _ us hl => match us, hl with | [_, _], _ => rfl
  have F5 := fun_mk (st := s_Points_passed) l5 c5 k5
  have b5 := F5.binds (ps := ["self", "kind", "mark"]) fun _ _ _ _ _ _ us hl => match us, hl with | [_, _, _], _ => rfl
  have F6 := fun_mk (st := s_Points_here) l6 c6 k6
  have b6 := F6.binds (ps := ["self", "passed", "above", "over", "elder"]) fun _ _ _ _ _ _ us hl => match us, hl with | [_, _, _, _, _], _ => rfl
  have F7 := fun_mk (st := s_Points_bits_at) l7 c7 k7
  have b7 := F7.binds (ps := ["self", "tree", "place"]) fun _ _ _ _ _ _ us hl => match us, hl with | [_, _, _], _ => rfl
  have F8 := fun_mk (st := s_Pattern_init) l8 c8 k8
  have b8 := F8.binds (ps := ["self", "text"]) fun _ _ _ _ _ _ us hl => match us, hl with | [_, _], _ => rfl
  have F9 := fun_mk (st := s_Pattern_call) l9 c9 k9
  have b9 := F9.binds (ps := ["self", "tree", "place"]) fun _ _ _ _ _ _ us hl => match us, hl with | [_, _, _], _ => rfl
  have F10 := fun_mk (st := s_l_cell) l10 c10 k10
  have b10 := F10.binds (ps := ["_law_script", "_law_k"]) fun _ _ _ _ _ _ us hl => match us, hl with | [_, _], _ => rfl
  have F11 := fun_mk (st := s_l_row) l11 c11 k11
  have b11 := F11.binds (ps := ["_law_cell_here", "_law_limits"]) fun _ _ _ _ _ _ us hl => match us, hl with | [_, _], _ => rfl
  have F12 := fun_mk (st := s_l_names) l12 c12 k12
  have b12 := F12.binds (ps := ["_law_cell_here", "_law_many"]) fun _ _ _ _ _ _ us hl => match us, hl with | [_, _], _ => rfl
  have F13 := fun_mk (st := s_l_tree) l13 c13 k13
  have b13 := F13.binds (ps := ["_law_cell_here", "_law_kinds", "_law_marks"]) fun _ _ _ _ _ _ us hl => match us, hl with | [_, _, _], _ => rfl
  have F14 := fun_mk (st := s_l_nodes) l14 c14 k14
  have b14 := F14.binds (ps := ["_law_tree_here"]) fun _ _ _ _ _ _ us hl => match us, hl with | [_], _ => rfl
  have F15 := fun_mk (st := s_l_fits) l15 c15 k15
  have b15 := F15.binds (ps := ["_law_nodes_here", "_law_tests", "_law_links", "_law_place", "_law_t"]) fun _ _ _ _ _ _ us hl => match us, hl with | [_, _, _, _, _], _ => rfl
  have F16 := fun_mk (st := s_l_aimed) l16 c16 k16
  have b16 := F16.binds (ps := ["_law_cell_here", "_law_nodes_here"]) fun _ _ _ _ _ _ us hl => match us, hl with | [_, _], _ => rfl
  have F17 := fun_mk (st := s_l_free) l17 c17 k17
  have b17 := F17.binds (ps := ["_law_cell_here", "_law_kinds", "_law_marks"]) fun _ _ _ _ _ _ us hl => match us, hl with | [_, _, _], _ => rfl
  have F18 := fun_mk (st := s_l_written) l18 c18 k18
  have b18 := F18.binds (ps := ["_law_tests", "_law_links"]) fun _ _ _ _ _ _ us hl => match us, hl with | [_, _], _ => rfl
  have F19 := fun_mk (st := s_l_right) l19 c19 k19
  have b19 := F19.binds (ps := ["_law_pattern", "_law_tree_here", "_law_nodes_here", "_law_drawn", "_law_places"]) fun _ _ _ _ _ _ us hl => match us, hl with | [_, _, _, _, _], _ => rfl
  have F20 := fun_mk (st := s_l_no_place) l20 c20 k20
  have b20 := F20.binds (ps := ["_law_pattern", "_law_tree_here", "_law_place"]) fun _ _ _ _ _ _ us hl => match us, hl with | [_, _, _], _ => rfl
  have F21 := fun_mk (st := s_law) l21 c21 k21
  have b21 := F21.binds (ps := ["_law_script"]) fun _ _ _ _ _ _ us hl => match us, hl with | [_], _ => rfl
  have FI_BadPattern := fun_mk (st := s_BadPattern) X9_BadPattern Xa_BadPattern Xb_BadPattern
  have bI_BadPattern := FI_BadPattern.binds (ps := ["self", "text"]) fun _ _ _ _ _ _ us hl => match us, hl with | [_, _], _ => rfl
  have FI_NoPlace := fun_mk (st := s_NoPlace) X9_NoPlace Xa_NoPlace Xb_NoPlace
  have bI_NoPlace := FI_NoPlace.binds (ps := ["self", "place"]) fun _ _ _ _ _ _ us hl => match us, hl with | [_, _], _ => rfl
  exact ⟨⟨f0, _, F0, PySem.W.mg_of X G a0, b0, f1, _, F1, PySem.W.mg_of X G a1, b1, f2, _, F2, PySem.W.mg_of X G a2, b2, f3, _, F3, PySem.W.mg_of X G a3, b3, f4, _, F4, b4, f5, _, F5, b5, f6, _, F6, b6, f7, _, F7, b7, f8, _, F8, b8, f9, _, F9, b9, f10, _, F10, PySem.W.mg_of X G a10, b10, f11, _, F11, PySem.W.mg_of X G a11, b11, f12, _, F12, PySem.W.mg_of X G a12, b12, f13, _, F13, PySem.W.mg_of X G a13, b13, f14, _, F14, PySem.W.mg_of X G a14, b14, f15, _, F15, PySem.W.mg_of X G a15, b15, f16, _, F16, PySem.W.mg_of X G a16, b16, f17, _, F17, PySem.W.mg_of X G a17, b17, f18, _, F18, PySem.W.mg_of X G a18, b18, f19, _, F19, PySem.W.mg_of X G a19, b19, f20, _, F20, PySem.W.mg_of X G a20, b20, f21, _, F21, PySem.W.mg_of X G a21, b21, PySem.W.mg_none_of X G z_ValueError, PySem.W.mg_none_of X G z_bool, PySem.W.mg_none_of X G z_int, PySem.W.mg_none_of X G z_isinstance, PySem.W.mg_none_of X G z_len, PySem.W.mg_none_of X G z_list, PySem.W.mg_none_of X G z_max, PySem.W.mg_none_of X G z_range, PySem.W.mg_none_of X G z_str, PySem.W.mg_none_of X G z_tuple, PySem.W.mg_none_of X G z_zip, _, PySem.W.mg_of X G y_LETTERS, _, PySem.W.mg_of X G y_MOST_TESTS, kA_LINKS_0, PySem.W.mg_of X G y_LINKS, ModD.mk (es := [⟨kh_LINKS_0, .str ">" kt_LINKS_0, .str "parent" kv_LINKS_0⟩, ⟨kh_LINKS_1, .str "+" kt_LINKS_1, .str "elder" kv_LINKS_1⟩]) kl_LINKS_0 kk_LINKS km_LINKS (.cons (v := .str "parent") (by decide +kernel) ⟨_, rfl⟩ (fun cm S => rp_lit (by decide +kernel)) (.cons (v := .str "elder") (by decide +kernel) ⟨_, rfl⟩ (fun cm S => rp_lit (by decide +kernel)) .nil)), A_BadPattern, PySem.W.mg_of X G x_BadPattern, A_LaidError, PySem.W.mg_of X G x_LaidError, A_NoPlace, PySem.W.mg_of X G x_NoPlace, ⟨⟨_, _, _, _, _, _, _, _, _, _, _, _, _, _, _, X1_BadPattern, X2_BadPattern⟩, X3_BadPattern, X4_BadPattern, X5_BadPattern, X6_BadPattern⟩, fI_BadPattern, _, X7_BadPattern, X8_BadPattern, FI_BadPattern, bI_BadPattern, Y0_BadPattern, ⟨Xc_BadPattern, Xd_BadPattern, X4_BadPattern, Xe_BadPattern⟩, ⟨Xc_BadPattern, Xd_BadPattern, X4_BadPattern, Xe_BadPattern, Xf_BadPattern, Xg_BadPattern, Xh_BadPattern, Xi_BadPattern⟩, E_BadPattern_NoPlace, Q_BadPattern_BadPattern, Q_BadPattern_LaidError, Q_BadPattern_ValueError, ⟨⟨_, _, _, _, _, _, _, _, _, _, _, _, _, _, _, X1_NoPlace, X2_NoPlace⟩, X3_NoPlace, X4_NoPlace, X5_NoPlace, X6_NoPlace⟩, fI_NoPlace, _, X7_NoPlace, X8_NoPlace, FI_NoPlace, bI_NoPlace, Y0_NoPlace, ⟨Xc_NoPlace, Xd_NoPlace, X4_NoPlace, Xe_NoPlace⟩, ⟨Xc_NoPlace, Xd_NoPlace, X4_NoPlace, Xe_NoPlace, Xf_NoPlace, Xg_NoPlace, Xh_NoPlace, Xi_NoPlace⟩, E_NoPlace_NoPlace, Q_NoPlace_BadPattern, Q_NoPlace_LaidError, Q_NoPlace_ValueError, A_Pattern, PySem.W.mg_of X G x_Pattern, ⟨P1_Pattern, P2_Pattern, P3_Pattern, P4_Pattern⟩, A_Points, PySem.W.mg_of X G x_Points, ⟨P1_Points, P2_Points, P3_Points, P4_Points⟩, ⟨M1_Pattern, M2_Pattern, M3_Pattern, M4_Pattern⟩, ⟨M1_Points, M2_Points, M3_Points, M4_Points⟩, N_Pattern_links, N_Pattern_tests, N_Pattern_text, N_Points_ends, N_Points_linked, N_Points_tests, ⟨m1_Pattern___call__, m2_Pattern___call__, k9⟩, ⟨m1_Points_bits_at, m2_Points_bits_at, k7⟩, ⟨m1_Points_here, m2_Points_here, k6⟩, ⟨m1_Points_passed, m2_Points_passed, k5⟩, ⟨O1_Pattern, O2_Pattern, O3_Pattern⟩⟩, rfl, rfl⟩
def spLaw (K : PySem.W.Frag) : Sp := fun vs H Q _ => ∃ (a : Addr) (ns : List Int), vs = [.ref a] ∧ SqL K H a (ns.map V.int) ∧ ns.length ≤ 63 ∧ ∀ H', Q (.bl true) H'
theorem ok_end {P : Program} {w : World} {K : PySem.W.Frag} {mg : Str → Option Value} {base : Heap} (T : Txt w K mg) : FnOk P w K mg base (L2.CX P w) 8 T.f_law T.fd_law ["_law_script"] (spLaw K) := FnOk.imp (ok_law T) fun vs H Q E ⟨a, ns, e, hS, hl, k⟩ => by
  subst e
  exact law_sp (law_true ns hl) hS k
theorem all_mk {l : PySem.W.OpenLaw} {w : World} {K : PySem.W.Frag} {h : Heap} {mg : Str → Option Value} {fa : Addr} (X : K.In h) (G : h.Ns mainGlobals mg) (hfa : mg "law" = some (.ref fa))
    {f0 : Addr} {oc0 kV0 dc0 pm0 cd0 ct0 : Value} {od0 an0 : Option Addr} {sl0 : Array (Option Value)}
    {f1 : Addr} {oc1 kV1 dc1 pm1 cd1 ct1 : Value} {od1 an1 : Option Addr} {sl1 : Array (Option Value)}
    {f2 : Addr} {oc2 kV2 dc2 pm2 cd2 ct2 : Value} {od2 an2 : Option Addr} {sl2 : Array (Option Value)}
    {f3 : Addr} {oc3 kV3 dc3 pm3 cd3 ct3 : Value} {od3 an3 : Option Addr} {sl3 : Array (Option Value)}
    {f4 : Addr} {oc4 kV4 dc4 pm4 cd4 ct4 : Value} {od4 an4 : Option Addr} {sl4 : Array (Option Value)}
    {f5 : Addr} {oc5 kV5 dc5 pm5 cd5 ct5 : Value} {od5 an5 : Option Addr} {sl5 : Array (Option Value)}
    {f6 : Addr} {oc6 kV6 dc6 pm6 cd6 ct6 : Value} {od6 an6 : Option Addr} {sl6 : Array (Option Value)}
    {f7 : Addr} {oc7 kV7 dc7 pm7 cd7 ct7 : Value} {od7 an7 : Option Addr} {sl7 : Array (Option Value)}
    {f8 : Addr} {oc8 kV8 dc8 pm8 cd8 ct8 : Value} {od8 an8 : Option Addr} {sl8 : Array (Option Value)}
    {f9 : Addr} {oc9 kV9 dc9 pm9 cd9 ct9 : Value} {od9 an9 : Option Addr} {sl9 : Array (Option Value)}
    {f10 : Addr} {oc10 kV10 dc10 pm10 cd10 ct10 : Value} {od10 an10 : Option Addr} {sl10 : Array (Option Value)}
    {f11 : Addr} {oc11 kV11 dc11 pm11 cd11 ct11 : Value} {od11 an11 : Option Addr} {sl11 : Array (Option Value)}
    {f12 : Addr} {oc12 kV12 dc12 pm12 cd12 ct12 : Value} {od12 an12 : Option Addr} {sl12 : Array (Option Value)}
    {f13 : Addr} {oc13 kV13 dc13 pm13 cd13 ct13 : Value} {od13 an13 : Option Addr} {sl13 : Array (Option Value)}
    {f14 : Addr} {oc14 kV14 dc14 pm14 cd14 ct14 : Value} {od14 an14 : Option Addr} {sl14 : Array (Option Value)}
    {f15 : Addr} {oc15 kV15 dc15 pm15 cd15 ct15 : Value} {od15 an15 : Option Addr} {sl15 : Array (Option Value)}
    {f16 : Addr} {oc16 kV16 dc16 pm16 cd16 ct16 : Value} {od16 an16 : Option Addr} {sl16 : Array (Option Value)}
    {f17 : Addr} {oc17 kV17 dc17 pm17 cd17 ct17 : Value} {od17 an17 : Option Addr} {sl17 : Array (Option Value)}
    {f18 : Addr} {oc18 kV18 dc18 pm18 cd18 ct18 : Value} {od18 an18 : Option Addr} {sl18 : Array (Option Value)}
    {f19 : Addr} {oc19 kV19 dc19 pm19 cd19 ct19 : Value} {od19 an19 : Option Addr} {sl19 : Array (Option Value)}
    {f20 : Addr} {oc20 kV20 dc20 pm20 cd20 ct20 : Value} {od20 an20 : Option Addr} {sl20 : Array (Option Value)}
    {f21 : Addr} {oc21 kV21 dc21 pm21 cd21 ct21 : Value} {od21 an21 : Option Addr} {sl21 : Array (Option Value)}
    {t_LETTERS : Tok}
    {t_MOST_TESTS : Tok}
    {kA_LINKS_0 : Addr} {kn_LINKS_0 : Nat}
    {kh_LINKS_0 : Int} {kt_LINKS_0 : Tok}
    {kv_LINKS_0 : Tok}
    {kh_LINKS_1 : Int} {kt_LINKS_1 : Tok}
    {kv_LINKS_1 : Tok}
    {A_BadPattern : Addr}
    {A_LaidError : Addr}
    {A_NoPlace : Addr}
    {nm_BadPattern qq_BadPattern : Str} {N_BadPattern fI_BadPattern : Addr} {bs_BadPattern bm_BadPattern : List Value} {sn_BadPattern : List Str} {sb_BadPattern : List Value} {ab_BadPattern : Bool} {co_BadPattern : Option Bool} {dd_BadPattern od_BadPattern an_BadPattern : Option Addr} {m0_BadPattern m1_BadPattern m2_BadPattern m3_BadPattern m5_BadPattern : Option Value} {oc_BadPattern kV_BadPattern dc_BadPattern pm_BadPattern cd_BadPattern ct_BadPattern : Value} {sl_BadPattern : Array (Option Value)}
    {nm_NoPlace qq_NoPlace : Str} {N_NoPlace fI_NoPlace : Addr} {bs_NoPlace bm_NoPlace : List Value} {sn_NoPlace : List Str} {sb_NoPlace : List Value} {ab_NoPlace : Bool} {co_NoPlace : Option Bool} {dd_NoPlace od_NoPlace an_NoPlace : Option Addr} {m0_NoPlace m1_NoPlace m2_NoPlace m3_NoPlace m5_NoPlace : Option Value} {oc_NoPlace kV_NoPlace dc_NoPlace pm_NoPlace cd_NoPlace ct_NoPlace : Value} {sl_NoPlace : Array (Option Value)}
    {A_Pattern : Addr}
    {A_Points : Addr}
    (a0 : PySem.W.nsIn K mainGlobals "is_name" = some (some (.ref f0)))
    (l0 : K.lookup f0 = some ⟨oc0, od0, .func (PySem.W.fnOf "is_name" "is_name" (defArgs s_is_name) (defBody s_is_name) (defScope s_is_name) .none kV0 dc0 pm0 an0 cd0 ct0), sl0⟩) (c0 : PySem.W.codeIn K cd0 "is_name" = true) (k0 : PySem.W.keepIn K (.ref f0) = true)
    (a1 : PySem.W.nsIn K mainGlobals "node_at" = some (some (.ref f1)))
    (l1 : K.lookup f1 = some ⟨oc1, od1, .func (PySem.W.fnOf "node_at" "node_at" (defArgs s_node_at) (defBody s_node_at) (defScope s_node_at) .none kV1 dc1 pm1 an1 cd1 ct1), sl1⟩) (c1 : PySem.W.codeIn K cd1 "node_at" = true) (k1 : PySem.W.keepIn K (.ref f1) = true)
    (a2 : PySem.W.nsIn K mainGlobals "read_test" = some (some (.ref f2)))
    (l2 : K.lookup f2 = some ⟨oc2, od2, .func (PySem.W.fnOf "read_test" "read_test" (defArgs s_read_test) (defBody s_read_test) (defScope s_read_test) .none kV2 dc2 pm2 an2 cd2 ct2), sl2⟩) (c2 : PySem.W.codeIn K cd2 "read_test" = true) (k2 : PySem.W.keepIn K (.ref f2) = true)
    (a3 : PySem.W.nsIn K mainGlobals "read_pattern" = some (some (.ref f3)))
    (l3 : K.lookup f3 = some ⟨oc3, od3, .func (PySem.W.fnOf "read_pattern" "read_pattern" (defArgs s_read_pattern) (defBody s_read_pattern) (defScope s_read_pattern) .none kV3 dc3 pm3 an3 cd3 ct3), sl3⟩) (c3 : PySem.W.codeIn K cd3 "read_pattern" = true) (k3 : PySem.W.keepIn K (.ref f3) = true)
    (l4 : K.lookup f4 = some ⟨oc4, od4, .func (PySem.W.fnOf "__init__" "Points.__init__" (defArgs s_Points_init) (defBody s_Points_init) (defScope s_Points_init) .none kV4 dc4 pm4 an4 cd4 ct4), sl4⟩) (c4 : PySem.W.codeIn K cd4 "Points.__init__" = true) (k4 : PySem.W.keepIn K (.ref f4) = true)
    (l5 : K.lookup f5 = some ⟨oc5, od5, .func (PySem.W.fnOf "passed" "Points.passed" (defArgs s_Points_passed) (defBody s_Points_passed) (defScope s_Points_passed) .none kV5 dc5 pm5 an5 cd5 ct5), sl5⟩) (c5 : PySem.W.codeIn K cd5 "Points.passed" = true) (k5 : PySem.W.keepIn K (.ref f5) = true)
    (l6 : K.lookup f6 = some ⟨oc6, od6, .func (PySem.W.fnOf "here" "Points.here" (defArgs s_Points_here) (defBody s_Points_here) (defScope s_Points_here) .none kV6 dc6 pm6 an6 cd6 ct6), sl6⟩) (c6 : PySem.W.codeIn K cd6 "Points.here" = true) (k6 : PySem.W.keepIn K (.ref f6) = true)
    (l7 : K.lookup f7 = some ⟨oc7, od7, .func (PySem.W.fnOf "bits_at" "Points.bits_at" (defArgs s_Points_bits_at) (defBody s_Points_bits_at) (defScope s_Points_bits_at) .none kV7 dc7 pm7 an7 cd7 ct7), sl7⟩) (c7 : PySem.W.codeIn K cd7 "Points.bits_at" = true) (k7 : PySem.W.keepIn K (.ref f7) = true)
    (l8 : K.lookup f8 = some ⟨oc8, od8, .func (PySem.W.fnOf "__init__" "Pattern.__init__" (defArgs s_Pattern_init) (defBody s_Pattern_init) (defScope s_Pattern_init) .none kV8 dc8 pm8 an8 cd8 ct8), sl8⟩) (c8 : PySem.W.codeIn K cd8 "Pattern.__init__" = true) (k8 : PySem.W.keepIn K (.ref f8) = true)
    (l9 : K.lookup f9 = some ⟨oc9, od9, .func (PySem.W.fnOf "__call__" "Pattern.__call__" (defArgs s_Pattern_call) (defBody s_Pattern_call) (defScope s_Pattern_call) .none kV9 dc9 pm9 an9 cd9 ct9), sl9⟩) (c9 : PySem.W.codeIn K cd9 "Pattern.__call__" = true) (k9 : PySem.W.keepIn K (.ref f9) = true)
    (a10 : PySem.W.nsIn K mainGlobals "_law_cell" = some (some (.ref f10)))
    (l10 : K.lookup f10 = some ⟨oc10, od10, .func (PySem.W.fnOf "_law_cell" "_law_cell" (defArgs s_l_cell) (defBody s_l_cell) (defScope s_l_cell) .none kV10 dc10 pm10 an10 cd10 ct10), sl10⟩) (c10 : PySem.W.codeIn K cd10 "_law_cell" = true) (k10 : PySem.W.keepIn K (.ref f10) = true)
    (a11 : PySem.W.nsIn K mainGlobals "_law_row" = some (some (.ref f11)))
    (l11 : K.lookup f11 = some ⟨oc11, od11, .func (PySem.W.fnOf "_law_row" "_law_row" (defArgs s_l_row) (defBody s_l_row) (defScope s_l_row) .none kV11 dc11 pm11 an11 cd11 ct11), sl11⟩) (c11 : PySem.W.codeIn K cd11 "_law_row" = true) (k11 : PySem.W.keepIn K (.ref f11) = true)
    (a12 : PySem.W.nsIn K mainGlobals "_law_names" = some (some (.ref f12)))
    (l12 : K.lookup f12 = some ⟨oc12, od12, .func (PySem.W.fnOf "_law_names" "_law_names" (defArgs s_l_names) (defBody s_l_names) (defScope s_l_names) .none kV12 dc12 pm12 an12 cd12 ct12), sl12⟩) (c12 : PySem.W.codeIn K cd12 "_law_names" = true) (k12 : PySem.W.keepIn K (.ref f12) = true)
    (a13 : PySem.W.nsIn K mainGlobals "_law_tree" = some (some (.ref f13)))
    (l13 : K.lookup f13 = some ⟨oc13, od13, .func (PySem.W.fnOf "_law_tree" "_law_tree" (defArgs s_l_tree) (defBody s_l_tree) (defScope s_l_tree) .none kV13 dc13 pm13 an13 cd13 ct13), sl13⟩) (c13 : PySem.W.codeIn K cd13 "_law_tree" = true) (k13 : PySem.W.keepIn K (.ref f13) = true)
    (a14 : PySem.W.nsIn K mainGlobals "_law_nodes" = some (some (.ref f14)))
    (l14 : K.lookup f14 = some ⟨oc14, od14, .func (PySem.W.fnOf "_law_nodes" "_law_nodes" (defArgs s_l_nodes) (defBody s_l_nodes) (defScope s_l_nodes) .none kV14 dc14 pm14 an14 cd14 ct14), sl14⟩) (c14 : PySem.W.codeIn K cd14 "_law_nodes" = true) (k14 : PySem.W.keepIn K (.ref f14) = true)
    (a15 : PySem.W.nsIn K mainGlobals "_law_fits" = some (some (.ref f15)))
    (l15 : K.lookup f15 = some ⟨oc15, od15, .func (PySem.W.fnOf "_law_fits" "_law_fits" (defArgs s_l_fits) (defBody s_l_fits) (defScope s_l_fits) .none kV15 dc15 pm15 an15 cd15 ct15), sl15⟩) (c15 : PySem.W.codeIn K cd15 "_law_fits" = true) (k15 : PySem.W.keepIn K (.ref f15) = true)
    (a16 : PySem.W.nsIn K mainGlobals "_law_aimed" = some (some (.ref f16)))
    (l16 : K.lookup f16 = some ⟨oc16, od16, .func (PySem.W.fnOf "_law_aimed" "_law_aimed" (defArgs s_l_aimed) (defBody s_l_aimed) (defScope s_l_aimed) .none kV16 dc16 pm16 an16 cd16 ct16), sl16⟩) (c16 : PySem.W.codeIn K cd16 "_law_aimed" = true) (k16 : PySem.W.keepIn K (.ref f16) = true)
    (a17 : PySem.W.nsIn K mainGlobals "_law_free" = some (some (.ref f17)))
    (l17 : K.lookup f17 = some ⟨oc17, od17, .func (PySem.W.fnOf "_law_free" "_law_free" (defArgs s_l_free) (defBody s_l_free) (defScope s_l_free) .none kV17 dc17 pm17 an17 cd17 ct17), sl17⟩) (c17 : PySem.W.codeIn K cd17 "_law_free" = true) (k17 : PySem.W.keepIn K (.ref f17) = true)
    (a18 : PySem.W.nsIn K mainGlobals "_law_written" = some (some (.ref f18)))
    (l18 : K.lookup f18 = some ⟨oc18, od18, .func (PySem.W.fnOf "_law_written" "_law_written" (defArgs s_l_written) (defBody s_l_written) (defScope s_l_written) .none kV18 dc18 pm18 an18 cd18 ct18), sl18⟩) (c18 : PySem.W.codeIn K cd18 "_law_written" = true) (k18 : PySem.W.keepIn K (.ref f18) = true)
    (a19 : PySem.W.nsIn K mainGlobals "_law_right" = some (some (.ref f19)))
    (l19 : K.lookup f19 = some ⟨oc19, od19, .func (PySem.W.fnOf "_law_right" "_law_right" (defArgs s_l_right) (defBody s_l_right) (defScope s_l_right) .none kV19 dc19 pm19 an19 cd19 ct19), sl19⟩) (c19 : PySem.W.codeIn K cd19 "_law_right" = true) (k19 : PySem.W.keepIn K (.ref f19) = true)
    (a20 : PySem.W.nsIn K mainGlobals "_law_no_place" = some (some (.ref f20)))
    (l20 : K.lookup f20 = some ⟨oc20, od20, .func (PySem.W.fnOf "_law_no_place" "_law_no_place" (defArgs s_l_no_place) (defBody s_l_no_place) (defScope s_l_no_place) .none kV20 dc20 pm20 an20 cd20 ct20), sl20⟩) (c20 : PySem.W.codeIn K cd20 "_law_no_place" = true) (k20 : PySem.W.keepIn K (.ref f20) = true)
    (a21 : PySem.W.nsIn K mainGlobals "law" = some (some (.ref f21)))
    (l21 : K.lookup f21 = some ⟨oc21, od21, .func (PySem.W.fnOf "law" "law" (defArgs s_law) (defBody s_law) (defScope s_law) .none kV21 dc21 pm21 an21 cd21 ct21), sl21⟩) (c21 : PySem.W.codeIn K cd21 "law" = true) (k21 : PySem.W.keepIn K (.ref f21) = true)
    (z_ValueError : PySem.W.nsIn K mainGlobals "ValueError" = some none)
    (z_bool : PySem.W.nsIn K mainGlobals "bool" = some none)
    (z_int : PySem.W.nsIn K mainGlobals "int" = some none)
    (z_isinstance : PySem.W.nsIn K mainGlobals "isinstance" = some none)
    (z_len : PySem.W.nsIn K mainGlobals "len" = some none)
    (z_list : PySem.W.nsIn K mainGlobals "list" = some none)
    (z_max : PySem.W.nsIn K mainGlobals "max" = some none)
    (z_range : PySem.W.nsIn K mainGlobals "range" = some none)
    (z_str : PySem.W.nsIn K mainGlobals "str" = some none)
    (z_tuple : PySem.W.nsIn K mainGlobals "tuple" = some none)
    (z_zip : PySem.W.nsIn K mainGlobals "zip" = some none)
    (y_LETTERS : PySem.W.nsIn K mainGlobals "LETTERS" = some (some (.str "abcdefghijklmnopqrstuvwxyz" t_LETTERS)))
    (y_MOST_TESTS : PySem.W.nsIn K mainGlobals "MOST_TESTS" = some (some (.int 4 t_MOST_TESTS)))
    (y_LINKS : PySem.W.nsIn K mainGlobals "LINKS" = some (some (.ref kA_LINKS_0)))
    (kl_LINKS_0 : K.lookup kA_LINKS_0 = some ⟨.type "dict", none, .dict #[⟨kh_LINKS_0, .str ">" kt_LINKS_0, .str "parent" kv_LINKS_0⟩, ⟨kh_LINKS_1, .str "+" kt_LINKS_1, .str "elder" kv_LINKS_1⟩] kn_LINKS_0, #[]⟩)
    (kk_LINKS : PySem.W.KeysLit w.params [⟨kh_LINKS_0, .str ">" kt_LINKS_0, .str "parent" kv_LINKS_0⟩, ⟨kh_LINKS_1, .str "+" kt_LINKS_1, .str "elder" kv_LINKS_1⟩])
    (km_LINKS : (kA_LINKS_0 == sysModules) = false)
    (x_BadPattern : PySem.W.nsIn K mainGlobals "BadPattern" = some (some (.ref A_BadPattern)))
    (x_LaidError : PySem.W.nsIn K mainGlobals "LaidError" = some (some (.ref A_LaidError)))
    (x_NoPlace : PySem.W.nsIn K mainGlobals "NoPlace" = some (some (.ref A_NoPlace)))
    (X1_BadPattern : K.lookup A_BadPattern = some (excClassObj nm_BadPattern qq_BadPattern A_BadPattern N_BadPattern bs_BadPattern bm_BadPattern true sn_BadPattern sb_BadPattern ab_BadPattern co_BadPattern dd_BadPattern m0_BadPattern m1_BadPattern m2_BadPattern m3_BadPattern m5_BadPattern "ValueError.__new__")) (X2_BadPattern : PySem.HandSPX.refsVE bm_BadPattern = true)
    (X3_BadPattern : PySem.W.findIn K (.ref A_BadPattern) "__setattr__" = some (some (.builtin "object.__setattr__"))) (X4_BadPattern : PySem.W.subIn K (.ref A_BadPattern) (.type "BaseException") = some true) (X5_BadPattern : PySem.W.typeIn K (.ref A_BadPattern) = some (.type "type")) (X6_BadPattern : PySem.W.keepIn K (.ref A_BadPattern) = true)
    (X7_BadPattern : PySem.W.findIn K (.ref A_BadPattern) "__init__" = some (some (.ref fI_BadPattern))) (X8_BadPattern : PySem.W.typeIn K (.ref fI_BadPattern) = some (.type "function")) (X9_BadPattern : K.lookup fI_BadPattern = some ⟨oc_BadPattern, od_BadPattern, .func (PySem.W.fnOf "__init__" "BadPattern.__init__" (defArgs s_BadPattern) (defBody s_BadPattern) (defScope s_BadPattern) .none kV_BadPattern dc_BadPattern pm_BadPattern an_BadPattern cd_BadPattern ct_BadPattern), sl_BadPattern⟩) (Xa_BadPattern : PySem.W.codeIn K cd_BadPattern "BadPattern.__init__" = true) (Xb_BadPattern : PySem.W.keepIn K (.ref fI_BadPattern) = true)
    (Y0_BadPattern : PySem.W.findIn K (.ref A_BadPattern) "text" = some none)
    (Xc_BadPattern : PySem.W.findIn K (.ref A_BadPattern) "__getattribute__" = some (some (.builtin "BaseException.__getattribute__"))) (Xd_BadPattern : PySem.W.findIn K (.ref A_BadPattern) "__getattr__" = some none) (Xe_BadPattern : PySem.W.hasDictIn K A_BadPattern = true)
    (Xf_BadPattern : PySem.W.findIn K (.ref A_BadPattern) "__class__" = some (some (.builtin "object.__class__"))) (Xg_BadPattern : PySem.W.specialIn K (.builtin "object.__class__") "__get__" = some (some (.builtin "getset_descriptor.__get__"))) (Xh_BadPattern : PySem.W.takesIn K (.builtin "object.__class__") = some true) (Xi_BadPattern : PySem.W.mroIn K A_BadPattern (.type "object") = some true)
    (E_BadPattern_NoPlace : PySem.W.exmOne K (.ref A_BadPattern) (.ref A_NoPlace) = some false)
    (Q_BadPattern_BadPattern : PySem.W.kitOne K (.ref A_BadPattern) (.ref A_BadPattern) = some true)
    (Q_BadPattern_LaidError : PySem.W.kitOne K (.ref A_BadPattern) (.ref A_LaidError) = some true)
    (Q_BadPattern_ValueError : PySem.W.kitOne K (.ref A_BadPattern) (.type "ValueError") = some true)
    (X1_NoPlace : K.lookup A_NoPlace = some (excClassObj nm_NoPlace qq_NoPlace A_NoPlace N_NoPlace bs_NoPlace bm_NoPlace true sn_NoPlace sb_NoPlace ab_NoPlace co_NoPlace dd_NoPlace m0_NoPlace m1_NoPlace m2_NoPlace m3_NoPlace m5_NoPlace "ValueError.__new__")) (X2_NoPlace : PySem.HandSPX.refsVE bm_NoPlace = true)
    (X3_NoPlace : PySem.W.findIn K (.ref A_NoPlace) "__setattr__" = some (some (.builtin "object.__setattr__"))) (X4_NoPlace : PySem.W.subIn K (.ref A_NoPlace) (.type "BaseException") = some true) (X5_NoPlace : PySem.W.typeIn K (.ref A_NoPlace) = some (.type "type")) (X6_NoPlace : PySem.W.keepIn K (.ref A_NoPlace) = true)
    (X7_NoPlace : PySem.W.findIn K (.ref A_NoPlace) "__init__" = some (some (.ref fI_NoPlace))) (X8_NoPlace : PySem.W.typeIn K (.ref fI_NoPlace) = some (.type "function")) (X9_NoPlace : K.lookup fI_NoPlace = some ⟨oc_NoPlace, od_NoPlace, .func (PySem.W.fnOf "__init__" "NoPlace.__init__" (defArgs s_NoPlace) (defBody s_NoPlace) (defScope s_NoPlace) .none kV_NoPlace dc_NoPlace pm_NoPlace an_NoPlace cd_NoPlace ct_NoPlace), sl_NoPlace⟩) (Xa_NoPlace : PySem.W.codeIn K cd_NoPlace "NoPlace.__init__" = true) (Xb_NoPlace : PySem.W.keepIn K (.ref fI_NoPlace) = true)
    (Y0_NoPlace : PySem.W.findIn K (.ref A_NoPlace) "place" = some none)
    (Xc_NoPlace : PySem.W.findIn K (.ref A_NoPlace) "__getattribute__" = some (some (.builtin "BaseException.__getattribute__"))) (Xd_NoPlace : PySem.W.findIn K (.ref A_NoPlace) "__getattr__" = some none) (Xe_NoPlace : PySem.W.hasDictIn K A_NoPlace = true)
    (Xf_NoPlace : PySem.W.findIn K (.ref A_NoPlace) "__class__" = some (some (.builtin "object.__class__"))) (Xg_NoPlace : PySem.W.specialIn K (.builtin "object.__class__") "__get__" = some (some (.builtin "getset_descriptor.__get__"))) (Xh_NoPlace : PySem.W.takesIn K (.builtin "object.__class__") = some true) (Xi_NoPlace : PySem.W.mroIn K A_NoPlace (.type "object") = some true)
    (E_NoPlace_NoPlace : PySem.W.exmOne K (.ref A_NoPlace) (.ref A_NoPlace) = some true)
    (Q_NoPlace_BadPattern : PySem.W.kitOne K (.ref A_NoPlace) (.ref A_BadPattern) = some false)
    (Q_NoPlace_LaidError : PySem.W.kitOne K (.ref A_NoPlace) (.ref A_LaidError) = some true)
    (Q_NoPlace_ValueError : PySem.W.kitOne K (.ref A_NoPlace) (.type "ValueError") = some true)
    (x_Pattern : PySem.W.nsIn K mainGlobals "Pattern" = some (some (.ref A_Pattern))) (P1_Pattern : PySem.W.plainGet K A_Pattern Str.empty = true) (P2_Pattern : PySem.W.hasDictIn K A_Pattern = true) (P3_Pattern : PySem.W.plainOver K A_Pattern = true) (P4_Pattern : PySem.W.findIn K (.ref A_Pattern) "__setattr__" = some (some (.builtin "object.__setattr__")))
    (x_Points : PySem.W.nsIn K mainGlobals "Points" = some (some (.ref A_Points))) (P1_Points : PySem.W.plainGet K A_Points Str.empty = true) (P2_Points : PySem.W.hasDictIn K A_Points = true) (P3_Points : PySem.W.plainOver K A_Points = true) (P4_Points : PySem.W.findIn K (.ref A_Points) "__setattr__" = some (some (.builtin "object.__setattr__")))
    (M1_Pattern : PySem.W.makesIn K A_Pattern = true) (M2_Pattern : PySem.W.findIn K (.ref A_Pattern) "__init__" = some (some (.ref f8))) (M3_Pattern : PySem.W.isFn K (.ref f8) = true) (M4_Pattern : PySem.W.keepIn K (.ref A_Pattern) = true)
    (M1_Points : PySem.W.makesIn K A_Points = true) (M2_Points : PySem.W.findIn K (.ref A_Points) "__init__" = some (some (.ref f4))) (M3_Points : PySem.W.isFn K (.ref f4) = true) (M4_Points : PySem.W.keepIn K (.ref A_Points) = true)
    (N_Pattern_links : PySem.W.findIn K (.ref A_Pattern) "links" = some none)
    (N_Pattern_tests : PySem.W.findIn K (.ref A_Pattern) "tests" = some none)
    (N_Pattern_text : PySem.W.findIn K (.ref A_Pattern) "text" = some none)
    (N_Points_ends : PySem.W.findIn K (.ref A_Points) "ends" = some none)
    (N_Points_linked : PySem.W.findIn K (.ref A_Points) "linked" = some none)
    (N_Points_tests : PySem.W.findIn K (.ref A_Points) "tests" = some none)
    (m1_Pattern___call__ : PySem.W.findIn K (.ref A_Pattern) "__call__" = some (some (.ref f9))) (m2_Pattern___call__ : PySem.W.isFn K (.ref f9) = true)
    (m1_Points_bits_at : PySem.W.findIn K (.ref A_Points) "bits_at" = some (some (.ref f7))) (m2_Points_bits_at : PySem.W.isFn K (.ref f7) = true)
    (m1_Points_here : PySem.W.findIn K (.ref A_Points) "here" = some (some (.ref f6))) (m2_Points_here : PySem.W.isFn K (.ref f6) = true)
    (m1_Points_passed : PySem.W.findIn K (.ref A_Points) "passed" = some (some (.ref f5))) (m2_Points_passed : PySem.W.isFn K (.ref f5) = true)
    (O1_Pattern : PySem.W.findIn K (.ref A_Pattern) "__call__" = some (some (.ref f9))) (O2_Pattern : PySem.W.isFn K (.ref f9) = true) (O3_Pattern : PySem.W.fnIn K f9 = true) :
    ∃ fd : FuncData, (∀ (s : Shared) (v : Value), BindsTo s fd ⟨[v], []⟩ [("_law_script", v)]) ∧ ∀ base : Heap, K.In base → base.Ns mainGlobals mg → FnOk l.prog w K mg base (L2.CX l.prog w) 8 fa fd ["_law_script"] (spLaw K) := by
  have e := hfa.symm.trans (PySem.W.mg_of X G a21)
  cases e
  obtain ⟨T, e1, e2⟩ := txt_mk X G a0 l0 c0 k0 a1 l1 c1 k1 a2 l2 c2 k2 a3 l3 c3 k3 l4 c4 k4 l5 c5 k5 l6 c6 k6 l7 c7 k7 l8 c8 k8 l9 c9 k9 a10 l10 c10 k10 a11 l11 c11 k11 a12 l12 c12 k12 a13 l13 c13 k13 a14 l14 c14 k14 a15 l15 c15 k15 a16 l16 c16 k16 a17 l17 c17 k17 a18 l18 c18 k18 a19 l19 c19 k19 a20 l20 c20 k20 a21 l21 c21 k21 z_ValueError z_bool z_int z_isinstance z_len z_list z_max z_range z_str z_tuple z_zip y_LETTERS y_MOST_TESTS y_LINKS kl_LINKS_0 kk_LINKS km_LINKS x_BadPattern x_LaidError x_NoPlace X1_BadPattern X2_BadPattern X3_BadPattern X4_BadPattern X5_BadPattern X6_BadPattern X7_BadPattern X8_BadPattern X9_BadPattern Xa_BadPattern Xb_BadPattern Y0_BadPattern Xc_BadPattern Xd_BadPattern Xe_BadPattern Xf_BadPattern Xg_BadPattern Xh_BadPattern Xi_BadPattern E_BadPattern_NoPlace Q_BadPattern_BadPattern Q_BadPattern_LaidError Q_BadPattern_ValueError X1_NoPlace X2_NoPlace X3_NoPlace X4_NoPlace X5_NoPlace X6_NoPlace X7_NoPlace X8_NoPlace X9_NoPlace Xa_NoPlace Xb_NoPlace Y0_NoPlace Xc_NoPlace Xd_NoPlace Xe_NoPlace Xf_NoPlace Xg_NoPlace Xh_NoPlace Xi_NoPlace E_NoPlace_NoPlace Q_NoPlace_BadPattern Q_NoPlace_LaidError Q_NoPlace_ValueError x_Pattern P1_Pattern P2_Pattern P3_Pattern P4_Pattern x_Points P1_Points P2_Points P3_Points P4_Points M1_Pattern M2_Pattern M3_Pattern M4_Pattern M1_Points M2_Points M3_Points M4_Points N_Pattern_links N_Pattern_tests N_Pattern_text N_Points_ends N_Points_linked N_Points_tests m1_Pattern___call__ m2_Pattern___call__ m1_Points_bits_at m2_Points_bits_at m1_Points_here m2_Points_here m1_Points_passed m2_Points_passed O1_Pattern O2_Pattern O3_Pattern
  refine ⟨PySem.W.fnOf "law" "law" (defArgs s_law) (defBody s_law) (defScope s_law) .none kV21 dc21 pm21 an21 cd21 ct21, fun s v => .of_eq rfl, fun base _ _ => ?_⟩
  have z := ok_end (P := l.prog) (w := w) (base := base) T
  rw [e1, e2] at z
  exact z
end Lk
end S_P_end
section S_P_top
set_option Elab.async false
set_option linter.all false
open PySem PySem.W PyProof.Rows
set_option maxRecDepth 100000 in
set_option maxHeartbeats 0 in
theorem PySem.Challenge.cw_laidforall_k09_pattern_matches_holds : PySem.Challenge.rw_laidforall_k09_pattern_matches.Holds := by
  w_on; o_law; k_head; (case hw => w_witness2)
  k_fill
  refine L2.walk_of (l := PySem.Challenge.rw_laidforall_k09_pattern_matches) (n := 63) (k := 8) (x := "_law_script") (CX := fun w => L2.CX PySem.Challenge.rw_laidforall_k09_pattern_matches.prog w) (sp := fun w => Lk.spLaw _) rfl (by decide) rfl ⟨rfl, by decide, by decide⟩ (fun w h Y => PySem.W.kIn_of Y) ?F (fun _ _ a ns hl _ hS => ⟨a, ns, rfl, hS, hl, fun _ => rfl⟩) (fun _ _ _ _ _ h => Dx.cx_never h)
  case F =>
    intro w mg fa h KX G hmg
    refine' Lk.all_mk KX G hmg ?a0 ?l0 ?c0 ?k0 ?a1 ?l1 ?c1 ?k1 ?a2 ?l2 ?c2 ?k2 ?a3 ?l3 ?c3 ?k3 ?l4 ?c4 ?k4 ?l5 ?c5 ?k5 ?l6 ?c6 ?k6 ?l7 ?c7 ?k7 ?l8 ?c8 ?k8 ?l9 ?c9 ?k9 ?a10 ?l10 ?c10 ?k10 ?a11 ?l11 ?c11 ?k11 ?a12 ?l12 ?c12 ?k12 ?a13 ?l13 ?c13 ?k13 ?a14 ?l14 ?c14 ?k14 ?a15 ?l15 ?c15 ?k15 ?a16 ?l16 ?c16 ?k16 ?a17 ?l17 ?c17 ?k17 ?a18 ?l18 ?c18 ?k18 ?a19 ?l19 ?c19 ?k19 ?a20 ?l20 ?c20 ?k20 ?a21 ?l21 ?c21 ?k21 ?z_ValueError ?z_bool ?z_int ?z_isinstance ?z_len ?z_list ?z_max ?z_range ?z_str ?z_tuple ?z_zip ?y_LETTERS ?y_MOST_TESTS ?y_LINKS ?kl_LINKS_0 ?kk_LINKS ?km_LINKS ?x_BadPattern ?x_LaidError ?x_NoPlace ?X1_BadPattern ?X2_BadPattern ?X3_BadPattern ?X4_BadPattern ?X5_BadPattern ?X6_BadPattern ?X7_BadPattern ?X8_BadPattern ?X9_BadPattern ?Xa_BadPattern ?Xb_BadPattern ?Y0_BadPattern ?Xc_BadPattern ?Xd_BadPattern ?Xe_BadPattern ?Xf_BadPattern ?Xg_BadPattern ?Xh_BadPattern ?Xi_BadPattern ?E_BadPattern_NoPlace ?Q_BadPattern_BadPattern ?Q_BadPattern_LaidError ?Q_BadPattern_ValueError ?X1_NoPlace ?X2_NoPlace ?X3_NoPlace ?X4_NoPlace ?X5_NoPlace ?X6_NoPlace ?X7_NoPlace ?X8_NoPlace ?X9_NoPlace ?Xa_NoPlace ?Xb_NoPlace ?Y0_NoPlace ?Xc_NoPlace ?Xd_NoPlace ?Xe_NoPlace ?Xf_NoPlace ?Xg_NoPlace ?Xh_NoPlace ?Xi_NoPlace ?E_NoPlace_NoPlace ?Q_NoPlace_BadPattern ?Q_NoPlace_LaidError ?Q_NoPlace_ValueError ?x_Pattern ?P1_Pattern ?P2_Pattern ?P3_Pattern ?P4_Pattern ?x_Points ?P1_Points ?P2_Points ?P3_Points ?P4_Points ?M1_Pattern ?M2_Pattern ?M3_Pattern ?M4_Pattern ?M1_Points ?M2_Points ?M3_Points ?M4_Points ?N_Pattern_links ?N_Pattern_tests ?N_Pattern_text ?N_Points_ends ?N_Points_linked ?N_Points_tests ?m1_Pattern___call__ ?m2_Pattern___call__ ?m1_Points_bits_at ?m2_Points_bits_at ?m1_Points_here ?m2_Points_here ?m1_Points_passed ?m2_Points_passed ?O1_Pattern ?O2_Pattern ?O3_Pattern
    (case y_LETTERS => k_is)
    (case y_MOST_TESTS => k_is)
    (case y_LINKS => k_is)
    (case x_BadPattern => k_is)
    (case x_LaidError => k_is)
    (case x_NoPlace => k_is)
    (case x_Pattern => k_is)
    (case x_Points => k_is)
    (case kl_LINKS_0 => k_is)
    (case M2_Pattern => k_is)
    (case M2_Points => k_is)
    (case m1_Pattern___call__ => k_is)
    (case m1_Points_bits_at => k_is)
    (case m1_Points_here => k_is)
    (case m1_Points_passed => k_is)
    (case O1_Pattern => k_is)
    (case a0 => k_is)
    (case l0 => k_is)
    (case c0 => k_is)
    (case k0 => k_is)
    (case a1 => k_is)
    (case l1 => k_is)
    (case c1 => k_is)
    (case k1 => k_is)
    (case a2 => k_is)
    (case l2 => k_is)
    (case c2 => k_is)
    (case k2 => k_is)
    (case a3 => k_is)
    (case l3 => k_is)
    (case c3 => k_is)
    (case k3 => k_is)
    (case l4 => k_is)
    (case c4 => k_is)
    (case k4 => k_is)
    (case l5 => k_is)
    (case c5 => k_is)
    (case k5 => k_is)
    (case l6 => k_is)
    (case c6 => k_is)
    (case k6 => k_is)
    (case l7 => k_is)
    (case c7 => k_is)
    (case k7 => k_is)
    (case l8 => k_is)
    (case c8 => k_is)
    (case k8 => k_is)
    (case l9 => k_is)
    (case c9 => k_is)
    (case k9 => k_is)
    (case a10 => k_is)
    (case l10 => k_is)
    (case c10 => k_is)
    (case k10 => k_is)
    (case a11 => k_is)
    (case l11 => k_is)
    (case c11 => k_is)
    (case k11 => k_is)
    (case a12 => k_is)
    (case l12 => k_is)
    (case c12 => k_is)
    (case k12 => k_is)
    (case a13 => k_is)
    (case l13 => k_is)
    (case c13 => k_is)
    (case k13 => k_is)
    (case a14 => k_is)
    (case l14 => k_is)
    (case c14 => k_is)
    (case k14 => k_is)
    (case a15 => k_is)
    (case l15 => k_is)
    (case c15 => k_is)
    (case k15 => k_is)
    (case a16 => k_is)
    (case l16 => k_is)
    (case c16 => k_is)
    (case k16 => k_is)
    (case a17 => k_is)
    (case l17 => k_is)
    (case c17 => k_is)
    (case k17 => k_is)
    (case a18 => k_is)
    (case l18 => k_is)
    (case c18 => k_is)
    (case k18 => k_is)
    (case a19 => k_is)
    (case l19 => k_is)
    (case c19 => k_is)
    (case k19 => k_is)
    (case a20 => k_is)
    (case l20 => k_is)
    (case c20 => k_is)
    (case k20 => k_is)
    (case a21 => k_is)
    (case l21 => k_is)
    (case c21 => k_is)
    (case k21 => k_is)
    (case z_ValueError => k_is)
    (case z_bool => k_is)
    (case z_int => k_is)
    (case z_isinstance => k_is)
    (case z_len => k_is)
    (case z_list => k_is)
    (case z_max => k_is)
    (case z_range => k_is)
    (case z_str => k_is)
    (case z_tuple => k_is)
    (case z_zip => k_is)
    (case kk_LINKS => k_keys)
    (case km_LINKS => decide)
    (case X1_BadPattern => k_is)
    (case X2_BadPattern => decide +kernel)
    (case X3_BadPattern => k_is)
    (case X4_BadPattern => k_is)
    (case X5_BadPattern => k_is)
    (case X6_BadPattern => k_is)
    (case X7_BadPattern => k_is)
    (case X8_BadPattern => k_is)
    (case X9_BadPattern => k_is)
    (case Xa_BadPattern => k_is)
    (case Xb_BadPattern => k_is)
    (case Y0_BadPattern => k_is)
    (case Xc_BadPattern => k_is)
    (case Xd_BadPattern => k_is)
    (case Xe_BadPattern => k_is)
    (case Xf_BadPattern => k_is)
    (case Xg_BadPattern => k_is)
    (case Xh_BadPattern => k_is)
    (case Xi_BadPattern => k_is)
    (case E_BadPattern_NoPlace => first | k_is | rfl | decide +kernel)
    (case Q_BadPattern_BadPattern => first | k_is | rfl | decide +kernel)
    (case Q_BadPattern_LaidError => first | k_is | rfl | decide +kernel)
    (case Q_BadPattern_ValueError => first | k_is | rfl | decide +kernel)
    (case X1_NoPlace => k_is)
    (case X2_NoPlace => decide +kernel)
    (case X3_NoPlace => k_is)
    (case X4_NoPlace => k_is)
    (case X5_NoPlace => k_is)
    (case X6_NoPlace => k_is)
    (case X7_NoPlace => k_is)
    (case X8_NoPlace => k_is)
    (case X9_NoPlace => k_is)
    (case Xa_NoPlace => k_is)
    (case Xb_NoPlace => k_is)
    (case Y0_NoPlace => k_is)
    (case Xc_NoPlace => k_is)
    (case Xd_NoPlace => k_is)
    (case Xe_NoPlace => k_is)
    (case Xf_NoPlace => k_is)
    (case Xg_NoPlace => k_is)
    (case Xh_NoPlace => k_is)
    (case Xi_NoPlace => k_is)
    (case E_NoPlace_NoPlace => first | k_is | rfl | decide +kernel)
    (case Q_NoPlace_BadPattern => first | k_is | rfl | decide +kernel)
    (case Q_NoPlace_LaidError => first | k_is | rfl | decide +kernel)
    (case Q_NoPlace_ValueError => first | k_is | rfl | decide +kernel)
    (case P1_Pattern => k_is)
    (case P2_Pattern => k_is)
    (case P3_Pattern => k_is)
    (case P4_Pattern => k_is)
    (case P1_Points => k_is)
    (case P2_Points => k_is)
    (case P3_Points => k_is)
    (case P4_Points => k_is)
    (case M1_Pattern => k_is)
    (case M3_Pattern => k_is)
    (case M4_Pattern => k_is)
    (case M1_Points => k_is)
    (case M3_Points => k_is)
    (case M4_Points => k_is)
    (case N_Pattern_links => k_is)
    (case N_Pattern_tests => k_is)
    (case N_Pattern_text => k_is)
    (case N_Points_ends => k_is)
    (case N_Points_linked => k_is)
    (case N_Points_tests => k_is)
    (case m2_Pattern___call__ => k_is)
    (case m2_Points_bits_at => k_is)
    (case m2_Points_here => k_is)
    (case m2_Points_passed => k_is)
    (case O2_Pattern => k_is)
    (case O3_Pattern => k_is)
end S_P_top
