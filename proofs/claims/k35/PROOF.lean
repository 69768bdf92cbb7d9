import PyProof.Rows.All
import Wide.All
import OpenK.AllK
import Wide.FinOn
import HandS.ForMost
import HandS.ForExc
import HandS.Evl
import HandS.Walk
import HandS.IsInst
import HandS.TupAny
import HandS.Deep
import HandS.Flow
import HandS.Wide
import HandS.Text
import HandS.CallSlots
import HandS.ExcInit
import HandS.ExcField
import HandS.ExcIs
import KE.KExcIs
import HandS.FStr
import HandS.Iter
import HandS.Zip0
import PyProof.EnumMake
import PyProof.Draws
import HandS.Style
import HandS.ClsMeth
import KE.GoesMore
import KE.GoesZip
import PyProof.StrOps2
import PyProof.Rows.MatchSeqLen
import KE.KUnpack
import HandS.NoneIn
import HandS.More
import HandS.Star
import HandS.SlotsOwn
import HandS.OwnIter
import HandS.IterVal
import KE.KCallOwn
import KE.KOwnIter
import HandS.TupLen
import HandS.Property
import HandS.Conv
import HandS.SortRule
import KE.KDictDisplayH
import HandS.Defaults
import HandS.TryOnly
import HandS.SortInts
import HandS.SortOrd
import HandS.DictComp
import KE.DataMinMax
import KE.KDictCopyH
import HandS.ListItems
import PyProof.ListStr
import HandS.HotCalls
import PyProof.InstNe
import HandS.MakeKwOnly
import KE.KTupSum
import HandS.TryMany
import KE.KEqDict
import PyProof.EqKinds
import HandS.RaiseMore
import HandS.StrMore
import HandS.TupLe
import HandS.OwnEq
import PyProof.ListRange
import KE.KDictZip
import PySem.Challenge.RW_laidforall_k35_books
set_option Elab.async false
set_option linter.all false
set_option maxRecDepth 100000
section S_DxA
set_option Elab.async false
set_option linter.all false
set_option maxRecDepth 100000
namespace Dx
open PySem L2
/-- data: what a value stands for, whatever its address -/
inductive D where
  | non
  | bl (b : Bool)
  | int (i : Int)
  | str (s : Str)
  | lst (xs : List D)
  | fz (xs : List D)
  | tup (xs : List D)
  | kt (xs : List D)
  | dk (ks : List Key) (vs : List D)
  | dt (ks : List (List Key)) (vs : List D)
  | obj (c : Str) (ns : List Str) (vs : List D)
  | own (k : Nat)
  | st (k : Nat) (rows : List (List D))
/-- where the classes of the text stand -/
abbrev CM := Str → Option Addr
/-- H' knows all that H knows -/
def Ex (H H' : Hp) : Prop := ∀ a o, H a = some o → H' a = some o
theorem Ex.refl {H : Hp} : Ex H H := fun _ _ h => h
theorem Ex.trans {H H1 H2 : Hp} (a : Ex H H1) (b : Ex H1 H2) : Ex H H2 := fun x o h => b x o (a x o h)
theorem Ex.nn {H H' : Hp} (e : Ex H H') {p : Addr} (h : H' p = none) : H p = none := by
  cases h1 : H p with
  | none => rfl
  | some o => rw [e p o h1] at h; cases h
theorem Ex.new {H : Hp} {p : Addr} {o : HO} (h : H p = none) : Ex H (upd H p o) := fun a u e => by
  rw [upd_ne (ne_of_none e h)]; exact e
theorem Ex.put {H H' : Hp} {p : Addr} {o : HO} (e : Ex H H') (h : H p = none) : Ex H (upd H' p o) := fun a u ha => by
  rw [upd_ne (ne_of_none ha h)]; exact e a u ha
theorem Ex.both {S H : Hp} {p : Addr} {o : HO} (e : Ex S H) : Ex (upd S p o) (upd H p o) := fun a u ha => by
  by_cases h : a = p
  · subst h; rw [upd_same] at ha ⊢; exact ha
  · rw [upd_ne h] at ha ⊢; exact e a u ha
theorem Ex.rd {H H' : Hp} {a : Addr} {u : HO} (e : Ex H H') (h : Rd H a u) : Rd H' a u := by
  rcases h with h | ⟨o, h⟩
  · exact .inl (e a _ h)
  · exact .inr ⟨o, e a _ h⟩
theorem Ex.l {K : PySem.W.Frag} {H H' : Hp} {a : Addr} {xs : List V} (e : Ex H H') (h : SqL K H a xs) : SqL K H' a xs := by
  rcases h with h | h
  · exact .inl (e.rd h)
  · exact .inr h
theorem Ex.t {K : PySem.W.Frag} {H H' : Hp} {a : Addr} {xs : List V} (e : Ex H H') (h : SqT K H a xs) : SqT K H' a xs := by
  rcases h with h | h
  · exact .inl (e.rd h)
  · exact .inr h
mutual
/-- the value v, at the heap S, stands for the data -/
inductive Rp (K : PySem.W.Frag) (cm : CM) (S : Hp) : V → D → Prop
  | non : Rp K cm S .non .non
  | bl (b : Bool) : Rp K cm S (.bl b) (.bl b)
  | int (i : Int) : Rp K cm S (.int i) (.int i)
  | str (x : Str) : Rp K cm S (.str x) (.str x)
  | lst {a : Addr} {xs : List V} {ds : List D} : S a = some (.lst xs) → RpA K cm S xs ds → Rp K cm S (.ref a) (.lst ds)
  | fz {a : Addr} {xs : List V} {ds : List D} : SqL K S a xs → RpA K cm S xs ds → Rp K cm S (.ref a) (.fz ds)
  | tup {a : Addr} {xs : List V} {ds : List D} : S a = some (.tup xs) → RpA K cm S xs ds → Rp K cm S (.ref a) (.tup ds)
  | kt {a : Addr} {xs : List V} {ds : List D} : SqT K S a xs → RpA K cm S xs ds → Rp K cm S (.ref a) (.kt ds)
  | dk {a : Addr} {w : Obj} {kvs : List (Key × V)} {ks : List Key} {ds : List D} : S a = some (.frz w (.dK kvs)) → ks = kvs.map (·.1) → RpA K cm S (kvs.map (·.2)) ds → Rp K cm S (.ref a) (.dk ks ds)
  | dt {a : Addr} {w : Obj} {kvs : List (List Key × V)} {ks : List (List Key)} {ds : List D} : S a = some (.frz w (.dT kvs)) → ks = kvs.map (·.1) → RpA K cm S (kvs.map (·.2)) ds → Rp K cm S (.ref a) (.dt ks ds)
  | obj {a C dx : Addr} {c : Str} {fs : List (Str × V)} {ns : List Str} {ds : List D} : cm c = some C → S a = some (.ins C dx fs) → ns = fs.map (·.1) → RpA K cm S (fs.map (·.2)) ds → Rp K cm S (.ref a) (.obj c ns ds)
inductive RpA (K : PySem.W.Frag) (cm : CM) (S : Hp) : List V → List D → Prop
  | nil : RpA K cm S [] []
  | cons {v : V} {vs : List V} {d : D} {ds : List D} : Rp K cm S v d → RpA K cm S vs ds → RpA K cm S (v :: vs) (d :: ds)
end
section
variable {K : PySem.W.Frag} {cm : CM} {S S' : Hp}
mutual
theorem Rp.mono (e : Ex S S') : ∀ {v : V} {d : D}, Rp K cm S v d → Rp K cm S' v d
  | _, .non, h => by cases h; exact .non
  | _, .bl _, h => by cases h; exact .bl _
  | _, .int _, h => by cases h; exact .int _
  | _, .str _, h => by cases h; exact .str _
  | _, .lst ds, h => by cases h with | lst q r => exact .lst (e _ _ q) (RpA.mono e r)
  | _, .fz ds, h => by cases h with | fz q r => exact .fz (e.l q) (RpA.mono e r)
  | _, .tup ds, h => by cases h with | tup q r => exact .tup (e _ _ q) (RpA.mono e r)
  | _, .kt ds, h => by cases h with | kt q r => exact .kt (e.t q) (RpA.mono e r)
  | _, .dk _ ds, h => by cases h with | dk q k r => exact .dk (e _ _ q) k (RpA.mono e r)
  | _, .dt _ ds, h => by cases h with | dt q k r => exact .dt (e _ _ q) k (RpA.mono e r)
  | _, .obj _ _ ds, h => by cases h with | obj c q k r => exact .obj c (e _ _ q) k (RpA.mono e r)
theorem RpA.mono (e : Ex S S') : ∀ {vs : List V} {ds : List D}, RpA K cm S vs ds → RpA K cm S' vs ds
  | _, [], h => by cases h; exact .nil
  | _, d :: ds, h => by cases h with | cons a r => exact .cons (Rp.mono e a) (RpA.mono e r)
end
theorem RpA.length : ∀ {vs : List V} {ds : List D}, RpA K cm S vs ds → vs.length = ds.length
  | _, _, .nil => rfl
  | _, _, .cons _ r => by simp [RpA.length r]
theorem RpA.get : ∀ {vs : List V} {ds : List D} {i : Nat} {d : D}, RpA K cm S vs ds → ds[i]? = some d → ∃ v, vs[i]? = some v ∧ Rp K cm S v d
  | _, _, _, _, .nil, e => by simp at e
  | _, _, 0, _, .cons h _, e => by simp at e; subst e; exact ⟨_, by simp, h⟩
  | _, _, i + 1, d, .cons _ r, e => by
    obtain ⟨v, h1, h2⟩ := RpA.get (i := i) (d := d) r (by simpa using e)
    exact ⟨v, by simpa using h1, h2⟩
theorem RpA.getV : ∀ {vs : List V} {ds : List D} {i : Nat} {v : V}, RpA K cm S vs ds → vs[i]? = some v → ∃ d, ds[i]? = some d ∧ Rp K cm S v d
  | _, _, _, _, .nil, e => by simp at e
  | _, _, 0, _, .cons h _, e => by simp at e; subst e; exact ⟨_, by simp, h⟩
  | _, _, i + 1, v, .cons _ r, e => by
    obtain ⟨d, h1, h2⟩ := RpA.getV (i := i) (v := v) r (by simpa using e)
    exact ⟨d, by simpa using h1, h2⟩
theorem RpA.app : ∀ {vs us : List V} {ds es : List D}, RpA K cm S vs ds → RpA K cm S us es → RpA K cm S (vs ++ us) (ds ++ es)
  | _, _, _, _, .nil, s => s
  | _, _, _, _, .cons h r, s => .cons h (RpA.app r s)
theorem RpA.one {v : V} {d : D} (h : Rp K cm S v d) : RpA K cm S [v] [d] := .cons h .nil
theorem RpA.take : ∀ {vs : List V} {ds : List D} (n : Nat), RpA K cm S vs ds → RpA K cm S (vs.take n) (ds.take n)
  | _, _, 0, _ => .nil
  | _, _, _ + 1, .nil => .nil
  | _, _, n + 1, .cons h r => .cons h (RpA.take n r)
theorem RpA.drop : ∀ {vs : List V} {ds : List D} (n : Nat), RpA K cm S vs ds → RpA K cm S (vs.drop n) (ds.drop n)
  | _, _, 0, r => r
  | _, _, _ + 1, .nil => .nil
  | _, _, n + 1, .cons _ r => RpA.drop n r
theorem RpA.set {v : V} {d : D} (h : Rp K cm S v d) : ∀ {vs : List V} {ds : List D} (i : Nat), RpA K cm S vs ds → RpA K cm S (vs.set i v) (ds.set i d)
  | _, _, _, .nil => .nil
  | _, _, 0, .cons _ r => .cons h r
  | _, _, i + 1, .cons q r => .cons q (RpA.set h i r)
theorem RpA.reverse : ∀ {vs : List V} {ds : List D}, RpA K cm S vs ds → RpA K cm S vs.reverse ds.reverse
  | _, _, .nil => .nil
  | _, _, .cons h r => by rw [List.reverse_cons, List.reverse_cons]; exact (RpA.reverse r).app (.one h)
end
/-- the content of a mutable object stands for the data, its parts at S -/
inductive RpO (K : PySem.W.Frag) (cm : CM) (S : Hp) : HO → D → Prop
  | lst {xs : List V} {ds : List D} : RpA K cm S xs ds → RpO K cm S (.lst xs) (.lst ds)
  | dk {kvs : List (Key × V)} {ks : List Key} {ds : List D} : ks = kvs.map (·.1) → RpA K cm S (kvs.map (·.2)) ds → RpO K cm S (.dK kvs) (.dk ks ds)
  | dt {kvs : List (List Key × V)} {ks : List (List Key)} {ds : List D} : ks = kvs.map (·.1) → RpA K cm S (kvs.map (·.2)) ds → RpO K cm S (.dT kvs) (.dt ks ds)
  | obj {C dx : Addr} {c : Str} {fs : List (Str × V)} {ns : List Str} {ds : List D} : cm c = some C → ns = fs.map (·.1) → RpA K cm S (fs.map (·.2)) ds → RpO K cm S (.ins C dx fs) (.obj c ns ds)
theorem RpO.mono {K : PySem.W.Frag} {cm : CM} {S S' : Hp} (e : Ex S S') {o : HO} {d : D} (h : RpO K cm S o d) : RpO K cm S' o d := by
  cases h with
  | lst r => exact .lst (r.mono e)
  | dk k r => exact .dk k (r.mono e)
  | dt k r => exact .dt k (r.mono e)
  | obj c k r => exact .obj c k (r.mono e)
def isDct : D → Bool
  | .dk _ _ => true
  | .dt _ _ => true
  | _ => false
theorem RpO.pub {K : PySem.W.Frag} {cm : CM} {S : Hp} {o : HO} {d : D} {p : Addr} (h : RpO K cm S o d) (nd : isDct d = false) (hp : S p = o) : Rp K cm S (.ref p) d := by
  cases h with
  | lst r => exact .lst hp r
  | dk k r => cases nd
  | dt k r => cases nd
  | obj c k r => exact .obj c hp k r
theorem RpO.pubD {K : PySem.W.Frag} {cm : CM} {S : Hp} {o : HO} {d : D} {p : Addr} {w : Obj} (h : RpO K cm S o d) (nd : isDct d = true) (hp : S p = some (.frz w o)) : Rp K cm S (.ref p) d ∧ Mut (some o) := by
  cases h with
  | lst r => cases nd
  | dk k r => exact ⟨.dk hp k r, trivial⟩
  | dt k r => exact ⟨.dt hp k r, trivial⟩
  | obj c k r => cases nd
theorem RpO.mut {K : PySem.W.Frag} {cm : CM} {S : Hp} {o : HO} {d : D} (h : RpO K cm S o d) : Mut (some o) := by
  cases h <;> trivial
/-- not there, or a tuple -/
def Old (o : Option HO) : Prop := o = none ∨ ∃ xs, o = some (.tup xs)
theorem Old.back {H H' : Hp} (e : Ex H H') {a : Addr} (h : Old (H' a)) : Old (H a) := by
  cases q : H a with
  | none => exact .inl rfl
  | some u =>
    rw [e a u q] at h
    rcases h with h | ⟨xs, h⟩
    · cases h
    · cases h; exact .inr ⟨xs, rfl⟩
theorem Old.not {H : Hp} {a : Addr} {o : HO} (h : Old (H a)) (q : H a = some o) : ∃ xs, o = .tup xs := by
  rw [q] at h
  rcases h with h | ⟨xs, h⟩
  · cases h
  · cases h; exact ⟨xs, rfl⟩
/-- S is the part of H that stays; from (S, H) to (S', H') nothing known has changed -/
structure Fwd (S H S' H' : Hp) : Prop where
  s : Ex S S'
  h : Ex H H'
  sub : Ex S' H'
  new : ∀ a o, S' a = some o → S a = none → Old (H a)
theorem Fwd.refl {S H : Hp} (e : Ex S H) : Fwd S H S H := ⟨Ex.refl, Ex.refl, e, fun a o h n => by rw [n] at h; cases h⟩
theorem Fwd.trans {S H S1 H1 S2 H2 : Hp} (a : Fwd S H S1 H1) (b : Fwd S1 H1 S2 H2) : Fwd S H S2 H2 :=
  ⟨a.s.trans b.s, a.h.trans b.h, b.sub, fun p o h n => by
    cases e : S1 p with
    | some u => exact a.new p u e n
    | none => exact (b.new p o h e).back a.h⟩
theorem Fwd.both {S H : Hp} {p : Addr} {o : HO} (e : Ex S H) (n : H p = none) : Fwd S H (upd S p o) (upd H p o) :=
  ⟨Ex.new (e.nn n), Ex.new n, e.both, fun a u h m => by
    by_cases ha : a = p
    · subst ha; exact .inl n
    · rw [upd_ne ha, m] at h; cases h⟩
theorem Fwd.heap {S H : Hp} {p : Addr} {o : HO} (e : Ex S H) (n : H p = none) : Fwd S H S (upd H p o) :=
  ⟨Ex.refl, Ex.new n, e.put (e.nn n), fun a u h m => by rw [m] at h; cases h⟩
/-- a new object known to H' alone becomes one that stays -/
theorem Fwd.pub {S H S' H' : Hp} {p : Addr} {o : HO} (f : Fwd S H S' H') (n : H p = none) (ns : S' p = none) (h : H' p = some o) : Fwd S H (upd S' p o) H' :=
  ⟨f.s.trans (Ex.new ns), f.h, fun a u ha => by
    by_cases hh : a = p
    · subst hh; rw [upd_same] at ha; rw [h]; exact ha
    · rw [upd_ne hh] at ha; exact f.sub a u ha, fun a u ha m => by
    by_cases hh : a = p
    · subst hh; exact .inl n
    · rw [upd_ne hh] at ha; exact f.new a u ha m⟩
inductive Res (α : Type) where
  | ok (a : α)
  | err (c : Str) (ns : List Str) (vs : List D)
  | bad
@[inline] def Res.bind {α β : Type} : Res α → (α → Res β) → Res β
  | .ok a, k => k a
  | .err c ns vs, _ => .err c ns vs
  | .bad, _ => .bad
instance : Monad Res where
  pure := Res.ok
  bind := Res.bind
abbrev Rho := List (Option D)
/-- the end of a statement -/
inductive SR where
  | nx (r : Rho)
  | rt (d : D)
  | bk (r : Rho)
  | ct (r : Rho)
  | er (r : Rho) (c : Str) (ns : List Str) (vs : List D)
  | bad
inductive Ow where
  | v | o | b | w
  | s (pre : List Addr)
  | x (a C dd : Addr)
  | i (a : Addr)
def isO : Ow → Prop
  | .o => True
  | .i _ => True
  | _ => False
structure Cf where
  K : PySem.W.Frag
  cm : CM
  W : WX
  ge : Option (List Ow)
  rm : Bool
/-- a value, or a mutable object read at H whose parts stay -/
def RpB (K : PySem.W.Frag) (cm : CM) (S H : Hp) (v : V) (d : D) : Prop :=
  Rp K cm S v d ∨ ∃ p ho, v = .ref p ∧ H p = some ho ∧ RpO K cm S ho d
section
variable {K : PySem.W.Frag} {cm : CM} {S S' H H' : Hp} {v : V} {d : D}
theorem RpB.mono (h : RpB K cm S H v d) (e : Ex S S') (e' : Ex H H') : RpB K cm S' H' v d := by
  rcases h with h | ⟨p, ho, h1, h2, h3⟩
  · exact .inl (h.mono e)
  · exact .inr ⟨p, ho, h1, e' _ _ h2, h3.mono e⟩
theorem RpB.list {ds : List D} (h : RpB K cm S H v (.lst ds)) (e : Ex S H) : ∃ p xs, v = .ref p ∧ H p = some (.lst xs) ∧ RpA K cm S xs ds := by
  rcases h with h | ⟨p, ho, h1, h2, h3⟩
  · cases h with | lst q r => exact ⟨_, _, rfl, e _ _ q, r⟩
  · cases h3 with | lst r => exact ⟨p, _, h1, h2, r⟩
theorem RpB.int {i : Int} (h : RpB K cm S H v (.int i)) : v = .int i := by
  rcases h with h | ⟨p, ho, h1, h2, h3⟩
  · cases h; rfl
  · cases h3
theorem RpB.bl {b : Bool} (h : RpB K cm S H v (.bl b)) : v = .bl b := by
  rcases h with h | ⟨p, ho, h1, h2, h3⟩
  · cases h; rfl
  · cases h3
theorem RpB.non (h : RpB K cm S H v .non) : v = .non := by
  rcases h with h | ⟨p, ho, h1, h2, h3⟩
  · cases h; rfl
  · cases h3
theorem RpB.str {z : Str} (h : RpB K cm S H v (.str z)) : v = .str z := by
  rcases h with h | ⟨p, ho, h1, h2, h3⟩
  · cases h; rfl
  · cases h3
theorem RpB.tup {ds : List D} (h : RpB K cm S H v (.tup ds)) (e : Ex S H) : ∃ p xs, v = .ref p ∧ SqT K H p xs ∧ RpA K cm S xs ds ∧ S p = some (.tup xs) := by
  rcases h with h | ⟨p, ho, h1, h2, h3⟩
  · cases h with | tup q r => exact ⟨_, _, rfl, .inl (.inl (e _ _ q)), r, q⟩
  · cases h3
theorem RpB.kt {ds : List D} (h : RpB K cm S H v (.kt ds)) (e : Ex S H) : ∃ p xs, v = .ref p ∧ SqT K H p xs ∧ RpA K cm S xs ds ∧ SqT K S p xs := by
  rcases h with h | ⟨p, ho, h1, h2, h3⟩
  · cases h with | kt q r => exact ⟨_, _, rfl, e.t q, r, q⟩
  · cases h3
theorem RpB.fz {ds : List D} (h : RpB K cm S H v (.fz ds)) (e : Ex S H) : ∃ p xs, v = .ref p ∧ SqL K H p xs ∧ RpA K cm S xs ds := by
  rcases h with h | ⟨p, ho, h1, h2, h3⟩
  · cases h with | fz q r => exact ⟨_, _, rfl, e.l q, r⟩
  · cases h3
theorem RpB.dk {ks : List Key} {ds : List D} (h : RpB K cm S H v (.dk ks ds)) (e : Ex S H) : ∃ p kvs, v = .ref p ∧ Rd H p (.dK kvs) ∧ ks = kvs.map (·.1) ∧ RpA K cm S (kvs.map (·.2)) ds := by
  rcases h with h | ⟨p, ho, h1, h2, h3⟩
  · cases h with | dk q k r => exact ⟨_, _, rfl, .inr ⟨_, e _ _ q⟩, k, r⟩
  · cases h3 with | dk k r => exact ⟨p, _, h1, .inl h2, k, r⟩
theorem RpB.dt {ks : List (List Key)} {ds : List D} (h : RpB K cm S H v (.dt ks ds)) (e : Ex S H) : ∃ p kvs, v = .ref p ∧ Rd H p (.dT kvs) ∧ ks = kvs.map (·.1) ∧ RpA K cm S (kvs.map (·.2)) ds := by
  rcases h with h | ⟨p, ho, h1, h2, h3⟩
  · cases h with | dt q k r => exact ⟨_, _, rfl, .inr ⟨_, e _ _ q⟩, k, r⟩
  · cases h3 with | dt k r => exact ⟨p, _, h1, .inl h2, k, r⟩
theorem RpB.obj {n : Str} {ns : List Str} {ds : List D} (h : RpB K cm S H v (.obj n ns ds)) (e : Ex S H) : ∃ p C dx fs, v = .ref p ∧ cm n = some C ∧ H p = some (.ins C dx fs) ∧ ns = fs.map (·.1) ∧ RpA K cm S (fs.map (·.2)) ds := by
  rcases h with h | ⟨p, ho, h1, h2, h3⟩
  · cases h with | obj c q k r => exact ⟨_, _, _, _, rfl, c, e _ _ q, k, r⟩
  · cases h3 with | obj c k r => exact ⟨p, _, _, _, h1, c, h2, k, r⟩
end
/-- a value, or one of the own lists at the places A -/
def RmV (K : PySem.W.Frag) (cm : CM) (A : List Addr) (S : Hp) (v : V) (d : D) : Prop := Rp K cm S v d ∨ ∃ k a, d = .own k ∧ A[k]? = some a ∧ v = .ref a
def RmA (K : PySem.W.Frag) (cm : CM) (A : List Addr) (S : Hp) (vs : List V) (ds : List D) : Prop := vs.length = ds.length ∧ ∀ (i : Nat) v d, vs[i]? = some v → ds[i]? = some d → RmV K cm A S v d
def SlotOk (c : Cf) (H0 S H : Hp) : Ow → V → D → Prop
  | .v, v, d => Rp c.K c.cm S v d
  | .o, v, d => ∃ p ho, v = .ref p ∧ H p = some ho ∧ S p = none ∧ H0 p = none ∧ RpO c.K c.cm S ho d
  | .i a, v, d => v = .ref a ∧ ∃ p ho, v = .ref p ∧ H p = some ho ∧ S p = none ∧ H0 p = none ∧ RpO c.K c.cm S ho d
  | .b, v, d => RpB c.K c.cm S H0 v d
  | .s _, v, d => ∃ k M, d = .st k M
  | .w, v, d => ∃ k, d = .own k
  | .x a C dd, v, d => v = .ref a ∧ ∃ n ns ds fs, d = .obj n ns ds ∧ c.cm n = some C ∧ S dd = some (.xd fs) ∧ ns = fs.map (·.1) ∧ RpA c.K c.cm S (fs.map (·.2)) ds
abbrev kd (G : List Ow) (i : Nat) : Ow := G.getD i .v
/-- the own lists that stand in each other, at the places A -/
structure StoOk (K : PySem.W.Frag) (cm : CM) (H0 : Hp) (G : List Ow) (S H : Hp) (σ : St) (r : Rho) (A : List Addr) : Prop where
  nod : A.Nodup
  out : ∀ a ∈ A, S a = none ∧ H0 a = none ∧ ∃ xs, H a = some (.lst xs)
  own : ∀ i d p, r[i]? = some (some d) → isO (kd G i) → σ[i]? = some (some (.ref p)) → p ∉ A
  st : ∀ i k M P, kd G i = .s P → r[i]? = some (some (.st k M)) → (P <+: A ∧ A.length = M.length) ∧ (∃ a, A[k]? = some a ∧ σ[i]? = some (some (.ref a))) ∧ ∀ (n : Nat) row, M[n]? = some row → ∃ a xs, A[n]? = some a ∧ H a = some (.lst xs) ∧ RmA K cm A S xs row
  al : ∀ i k, kd G i = .w → r[i]? = some (some (.own k)) → ∃ a, A[k]? = some a ∧ σ[i]? = some (some (.ref a))
theorem RmA.mono {K : PySem.W.Frag} {cm : CM} {A : List Addr} {S S' : Hp} {vs : List V} {ds : List D} (h : RmA K cm A S vs ds) (e : Ex S S') : RmA K cm A S' vs ds :=
  ⟨h.1, fun i v d hv hd => (h.2 i v d hv hd).imp (fun z => z.mono e) id⟩
theorem StoOk.sub {K : PySem.W.Frag} {cm : CM} {H0 S H S' H' : Hp} {G G' : List Ow} {σ σ' : St} {r r' : Rho} {A : List Addr} (h : StoOk K cm H0 G S H σ r A) (hS : ∀ a ∈ A, S' a = none) (hH : ∀ a ∈ A, H' a = H a) (eS : Ex S S')
    (ho : ∀ i d p, r'[i]? = some (some d) → isO (kd G' i) → σ'[i]? = some (some (.ref p)) → p ∉ A)
    (hs : ∀ i d, (∃ P, kd G' i = .s P) ∨ kd G' i = .w → r'[i]? = some (some d) → kd G i = kd G' i ∧ r[i]? = some (some d) ∧ σ'[i]? = σ[i]?) : StoOk K cm H0 G' S' H' σ' r' A where
  nod := h.nod
  out := fun a ha => by
    obtain ⟨_, h2, h3⟩ := h.out a ha
    exact ⟨hS a ha, h2, by rw [hH a ha]; exact h3⟩
  own := ho
  st := fun i k M P hi hr => by
    obtain ⟨a1, a2, a3⟩ := hs i _ (.inl ⟨P, hi⟩) hr
    obtain ⟨b1, b2, b3⟩ := h.st i k M P (a1.trans hi) a2
    refine ⟨b1, by rw [a3]; exact b2, fun n row hn => ?_⟩
    obtain ⟨a, xs, c1, c2, c3⟩ := b3 n row hn
    exact ⟨a, xs, c1, by rw [hH a (List.mem_of_getElem? c1)]; exact c2, c3.mono eS⟩
  al := fun i k hi hr => by
    obtain ⟨a1, a2, a3⟩ := hs i _ (.inr hi) hr
    rw [a3]
    exact h.al i k (a1.trans hi) a2
theorem StoOk.go {K : PySem.W.Frag} {cm : CM} {H0 S H S' H' : Hp} {G : List Ow} {σ : St} {r : Rho} {A : List Addr} (h : StoOk K cm H0 G S H σ r A) (f : Fwd S H S' H') : StoOk K cm H0 G S' H' σ r A :=
  h.sub (fun a ha => by
    obtain ⟨h1, _, xs, h3⟩ := h.out a ha
    cases e : S' a with
    | none => rfl
    | some u => obtain ⟨ys, z⟩ := (f.new a u e h1).not h3; cases z) (fun a ha => by
    obtain ⟨_, _, xs, h3⟩ := h.out a ha
    rw [h3]; exact f.h a _ h3) f.s h.own fun i d hi hr => ⟨rfl, hr, rfl⟩
/-- no such lists -/
theorem StoOk.nil {K : PySem.W.Frag} {cm : CM} {H0 S H : Hp} {G : List Ow} {σ : St} {r : Rho} (h : ∀ i d, r[i]? = some (some d) → (∀ P, kd G i ≠ .s P) ∧ kd G i ≠ .w) : StoOk K cm H0 G S H σ r [] where
  nod := List.nodup_nil
  out := fun a ha => by cases ha
  own := fun i d p _ _ _ hp => by cases hp
  st := fun i k M P hi hr => absurd hi ((h i _ hr).1 P)
  al := fun i k hi hr => absurd hi (h i _ hr).2
structure EnvOk (c : Cf) (S0 H0 : Hp) (G : List Ow) (S H : Hp) (σ : St) (r : Rho) : Prop where
  fwd : Fwd S0 H0 S H
  len : σ.length = r.length
  slot : ∀ i d, r[i]? = some (some d) → ∃ v, σ[i]? = some (some v) ∧ SlotOk c H0 S H (kd G i) v d
  sep : ∀ i j d e p, r[i]? = some (some d) → r[j]? = some (some e) → isO (kd G i) → isO (kd G j) → σ[i]? = some (some (.ref p)) → σ[j]? = some (some (.ref p)) → i = j
  sto : ∃ A, StoOk c.K c.cm H0 G S H σ r A
section
variable {c : Cf} {S0 H0 S H S' H' : Hp} {G : List Ow} {σ : St} {r : Rho}
theorem SlotOk.o_of {k : Ow} {v : V} {d : D} (h : SlotOk c H0 S H k v d) (q : isO k) : ∃ p ho, v = .ref p ∧ H p = some ho ∧ S p = none ∧ H0 p = none ∧ RpO c.K c.cm S ho d := by
  cases k with
  | o => exact h
  | i a => exact h.2
  | _ => cases q
theorem SlotOk.mono {k : Ow} {v : V} {d : D} (h : SlotOk c H0 S H k v d) (f : Fwd S H S' H') : SlotOk c H0 S' H' k v d := by
  cases k with
  | v => exact Rp.mono f.s h
  | o =>
    obtain ⟨p, ho, h1, h2, h3, h4, h5⟩ := h
    refine ⟨p, ho, h1, f.h p _ h2, ?_, h4, h5.mono f.s⟩
    cases e : S' p with
    | none => rfl
    | some u => obtain ⟨ys, z⟩ := (f.new p u e h3).not h2; subst z; cases h5
  | i a =>
    obtain ⟨h0, p, ho, h1, h2, h3, h4, h5⟩ := h
    refine ⟨h0, p, ho, h1, f.h p _ h2, ?_, h4, h5.mono f.s⟩
    cases e : S' p with
    | none => rfl
    | some u => obtain ⟨ys, z⟩ := (f.new p u e h3).not h2; subst z; cases h5
  | b => exact RpB.mono h f.s Ex.refl
  | s P => exact h
  | w => exact h
  | x a C dd =>
    obtain ⟨h1, n, ns, ds, fs, h2, h3, h4, h5, h6⟩ := h
    exact ⟨h1, n, ns, ds, fs, h2, h3, f.s _ _ h4, h5, h6.mono f.s⟩
theorem EnvOk.go (e : EnvOk c S0 H0 G S H σ r) (f : Fwd S H S' H') : EnvOk c S0 H0 G S' H' σ r :=
  ⟨e.fwd.trans f, e.len, fun i d h => let ⟨v, h1, h2⟩ := e.slot i d h; ⟨v, h1, h2.mono f⟩, e.sep, let ⟨A, h⟩ := e.sto; ⟨A, h.go f⟩⟩
theorem EnvOk.ex (e : EnvOk c S0 H0 G S H σ r) : Ex S H := e.fwd.sub
theorem kd_set_self (G : List Ow) (i : Nat) : kd (G.set i .v) i = .v := by
  show (G.set i .v).getD i .v = .v
  rw [List.getD_eq_getElem?_getD, List.getElem?_set]
  split
  · split <;> rfl
  · rename_i h; exact absurd rfl h
theorem kd_set_ne {G : List Ow} {i j : Nat} {k : Ow} (h : i ≠ j) : kd (G.set i k) j = kd G j := by
  show (G.set i k).getD j .v = G.getD j .v
  rw [List.getD_eq_getElem?_getD, List.getD_eq_getElem?_getD, List.getElem?_set_ne h]
theorem kd_set_o {G : List Ow} {i : Nat} {k : Ow} (h : i < G.length) : kd (G.set i k) i = k := by
  show (G.set i k).getD i .v = k
  rw [List.getD_eq_getElem?_getD, List.getElem?_set_self h]; rfl
theorem set_some {α : Type} {l : List (Option α)} {i j : Nat} {a : Option α} {b : α} (h : (l.set i a)[j]? = some (some b)) : (i = j ∧ a = some b ∧ i < l.length) ∨ (i ≠ j ∧ l[j]? = some (some b)) := by
  by_cases e : i = j
  · subst e
    rw [List.getElem?_set] at h
    rw [if_pos rfl] at h
    split at h
    · rename_i hl; exact .inl ⟨rfl, Option.some.inj h, hl⟩
    · cases h
  · rw [List.getElem?_set_ne e] at h
    exact .inr ⟨e, h⟩
/-- a slot gets a value -/
theorem EnvOk.setV (e : EnvOk c S0 H0 G S H σ r) {v : V} {d : D} (i : Nat) (h : Rp c.K c.cm S v d) : EnvOk c S0 H0 (G.set i .v) S H (σ.set i (some v)) (r.set i (some d)) := by
  refine ⟨e.fwd, by simp [e.len], fun j b hb => ?_, fun j k b b' p hj hk kj kk sj sk => ?_, let ⟨A, hA⟩ := e.sto; ⟨A, hA.sub (fun a ha => (hA.out a ha).1) (fun _ _ => rfl) Ex.refl (fun j b q hj kj sj => ?_) fun j b kj hj => ?_⟩⟩
  · rcases set_some hb with ⟨rfl, ea, hl⟩ | ⟨ne, hb⟩
    · cases ea
      exact ⟨v, by rw [List.getElem?_set_self (by rw [e.len]; exact hl)], by rw [kd_set_self]; exact h⟩
    · obtain ⟨u, h1, h2⟩ := e.slot j b hb
      exact ⟨u, by rw [List.getElem?_set_ne ne]; exact h1, by rw [kd_set_ne ne]; exact h2⟩
  · have nj : i ≠ j := fun z => by subst z; rw [kd_set_self] at kj; cases kj
    have nk : i ≠ k := fun z => by subst z; rw [kd_set_self] at kk; cases kk
    rw [List.getElem?_set_ne nj] at hj sj
    rw [List.getElem?_set_ne nk] at hk sk
    rw [kd_set_ne nj] at kj
    rw [kd_set_ne nk] at kk
    exact e.sep j k b b' p hj hk kj kk sj sk
  · have nj : i ≠ j := fun z => by subst z; rw [kd_set_self] at kj; cases kj
    rw [List.getElem?_set_ne nj] at hj sj
    rw [kd_set_ne nj] at kj
    exact hA.own j b q hj kj sj
  · have nj : i ≠ j := fun z => by subst z; rw [kd_set_self] at kj; rcases kj with ⟨_, kj⟩ | kj <;> cases kj
    rw [List.getElem?_set_ne nj] at hj
    rw [kd_set_ne nj, List.getElem?_set_ne nj]
    exact ⟨rfl, hj, rfl⟩
/-- a slot gets a new mutable object -/
theorem EnvOk.setO (e : EnvOk c S0 H0 G S H σ r) (f : Fwd S H S' H') {p : Addr} {ho : HO} {d : D} (i : Nat) (hi : i < G.length) (n : H p = none) (ns : S' p = none) (hp : H' p = some ho) (h : RpO c.K c.cm S' ho d) :
    EnvOk c S0 H0 (G.set i .o) S' H' (σ.set i (some (.ref p))) (r.set i (some d)) := by
  have e' := e.go f
  have fresh : ∀ j b, r[j]? = some (some b) → isO (kd G j) → σ[j]? ≠ some (some (.ref p)) := fun j b hb kj sj => by
    obtain ⟨u, h1, h2⟩ := e.slot j b hb
    obtain ⟨q, ho', z1, z2, _⟩ := h2.o_of kj
    rw [sj] at h1; cases h1; cases z1
    rw [n] at z2; cases z2
  refine ⟨e'.fwd, by simp [e.len], fun j b hb => ?_, fun j k b b' q hj hk kj kk sj sk => ?_, let ⟨A, hA⟩ := e.sto; ⟨A, (hA.go f).sub (fun a ha => ((hA.go f).out a ha).1) (fun _ _ => rfl) Ex.refl (fun j b q hj kj sj => ?_) fun j b kj hj => ?_⟩⟩
  · rcases set_some hb with ⟨rfl, ea, hl⟩ | ⟨ne, hb⟩
    · cases ea
      refine ⟨.ref p, by rw [List.getElem?_set_self (by rw [e.len]; exact hl)], ?_⟩
      rw [kd_set_o hi]
      exact ⟨p, ho, rfl, hp, ns, e.fwd.h.nn n, h⟩
    · obtain ⟨u, h1, h2⟩ := e'.slot j b hb
      exact ⟨u, by rw [List.getElem?_set_ne ne]; exact h1, by rw [kd_set_ne ne]; exact h2⟩
  · by_cases nj : i = j
    · by_cases nk : i = k
      · rw [← nj, nk]
      · subst nj
        exfalso
        rcases set_some sj with ⟨_, ea, _⟩ | ⟨ne, _⟩
        · cases ea
          rw [List.getElem?_set_ne nk] at hk sk
          rw [kd_set_ne nk] at kk
          exact fresh k _ hk kk sk
        · exact ne rfl
    · by_cases nk : i = k
      · subst nk
        exfalso
        rcases set_some sk with ⟨_, ea, _⟩ | ⟨ne, _⟩
        · cases ea
          rw [List.getElem?_set_ne nj] at hj sj
          rw [kd_set_ne nj] at kj
          exact fresh j _ hj kj sj
        · exact ne rfl
      · rw [List.getElem?_set_ne nj] at hj sj
        rw [List.getElem?_set_ne nk] at hk sk
        rw [kd_set_ne nj] at kj
        rw [kd_set_ne nk] at kk
        exact e.sep j k b b' q hj hk kj kk sj sk
  · rcases set_some sj with ⟨_, ea, _⟩ | ⟨nj, sj⟩
    · cases ea
      intro ha
      obtain ⟨_, _, xs, h3⟩ := hA.out p ha
      rw [n] at h3; cases h3
    · rw [List.getElem?_set_ne nj] at hj
      rw [kd_set_ne nj] at kj
      exact hA.own j b q hj kj sj
  · have nj : i ≠ j := fun z => by subst z; rw [kd_set_o hi] at kj; rcases kj with ⟨_, kj⟩ | kj <;> cases kj
    rw [List.getElem?_set_ne nj] at hj
    rw [kd_set_ne nj, List.getElem?_set_ne nj]
    exact ⟨rfl, hj, rfl⟩
/-- the own object in slot i: its place -/
theorem EnvOk.ownI (e : EnvOk c S0 H0 G S H σ r) {i : Nat} {d : D} (k : isO (kd G i)) (h : r[i]? = some (some d)) : ∃ p ho, σ[i]? = some (some (.ref p)) ∧ H p = some ho ∧ S p = none ∧ H0 p = none ∧ RpO c.K c.cm S ho d := by
  obtain ⟨v, h1, h2⟩ := e.slot i d h
  obtain ⟨p, ho, rfl, h3⟩ := h2.o_of k
  exact ⟨p, ho, h1, h3⟩
/-- the own object in slot i is changed -/
theorem EnvOk.mutI (e : EnvOk c S0 H0 G S H σ r) {i : Nat} {d d' : D} {p : Addr} {ho' : HO} (k : isO (kd G i)) (h : r[i]? = some (some d)) (hs : σ[i]? = some (some (.ref p))) (h' : RpO c.K c.cm S ho' d') :
    EnvOk c S0 H0 G S (upd H p ho') σ (r.set i (some d')) := by
  obtain ⟨q, ho, s1, s2, s3, s4, s5⟩ := e.ownI k h
  rw [hs] at s1; cases s1
  have hf : Fwd S0 H0 S (upd H p ho') := ⟨e.fwd.s, e.fwd.h.put s4, e.fwd.sub.put s3, e.fwd.new⟩
  refine ⟨hf, by simp [e.len], fun j b hb => ?_, fun j l b b' q hj hk kj kk sj sk => ?_, let ⟨A, hA⟩ := e.sto; ⟨A, hA.sub (fun a ha => (hA.out a ha).1) (fun a ha => upd_ne fun z => hA.own i d p h k hs (z ▸ ha)) Ex.refl (fun j b q hj kj sj => ?_) fun j b kj hj => ?_⟩⟩
  · rcases set_some hb with ⟨rfl, ea, hl⟩ | ⟨ne, hb⟩
    · cases ea
      refine ⟨.ref p, hs, ?_⟩
      cases kk : kd G i with
      | o => exact ⟨p, ho', rfl, upd_same, s3, s4, h'⟩
      | i a =>
        obtain ⟨u, h1, h2⟩ := e.slot i d h
        rw [kk] at h2
        rw [hs] at h1; cases h1
        exact ⟨h2.1, p, ho', rfl, upd_same, s3, s4, h'⟩
      | _ => rw [kk] at k; cases k
    · obtain ⟨u, h1, h2⟩ := e.slot j b hb
      refine ⟨u, h1, ?_⟩
      cases kj : kd G j with
      | v => rw [kj] at h2; exact h2
      | b => rw [kj] at h2; exact h2
      | s P => rw [kj] at h2; exact h2
      | w => rw [kj] at h2; exact h2
      | x a C dd => rw [kj] at h2; exact h2
      | o =>
        rw [kj] at h2
        obtain ⟨q, hq, z1, z2, z3, z4, z5⟩ := h2
        subst z1
        have : q ≠ p := fun z => by subst z; exact ne (e.sep i j d b q h hb k (by rw [kj]; trivial) hs h1)
        exact ⟨q, hq, rfl, by rw [upd_ne this]; exact z2, z3, z4, z5⟩
      | i a =>
        rw [kj] at h2
        obtain ⟨z0, q, hq, z1, z2, z3, z4, z5⟩ := h2
        subst z1
        have : q ≠ p := fun z => by subst z; exact ne (e.sep i j d b q h hb k (by rw [kj]; trivial) hs h1)
        exact ⟨z0, q, hq, rfl, by rw [upd_ne this]; exact z2, z3, z4, z5⟩
  · have un : ∀ m b, (r.set i (some d'))[m]? = some (some b) → ∃ b', r[m]? = some (some b') := fun m b hm => by
      rcases set_some hm with ⟨rfl, _, _⟩ | ⟨_, hm⟩
      · exact ⟨d, h⟩
      · exact ⟨b, hm⟩
    obtain ⟨b1, hj⟩ := un j b hj
    obtain ⟨b2, hk⟩ := un l b' hk
    exact e.sep j l b1 b2 q hj hk kj kk sj sk
  · rcases set_some hj with ⟨nj, _, _⟩ | ⟨_, hj⟩
    · subst nj
      exact hA.own i d q h kj sj
    · exact hA.own j b q hj kj sj
  · rcases set_some hj with ⟨nj, _, _⟩ | ⟨_, hj⟩
    · subst nj
      rcases kj with ⟨_, kj⟩ | kj <;> (rw [kj] at k; cases k)
    · exact ⟨rfl, hj, rfl⟩
theorem isO_o {k : Ow} (h : k = .o) : isO k := by rw [h]; trivial
theorem EnvOk.own (e : EnvOk c S0 H0 G S H σ r) {i : Nat} {d : D} (k : kd G i = .o) (h : r[i]? = some (some d)) : ∃ p ho, σ[i]? = some (some (.ref p)) ∧ H p = some ho ∧ S p = none ∧ H0 p = none ∧ RpO c.K c.cm S ho d := e.ownI (isO_o k) h
theorem EnvOk.mut (e : EnvOk c S0 H0 G S H σ r) {i : Nat} {d d' : D} {p : Addr} {ho' : HO} (k : kd G i = .o) (h : r[i]? = some (some d)) (hs : σ[i]? = some (some (.ref p))) (h' : RpO c.K c.cm S ho' d') :
    EnvOk c S0 H0 G S (upd H p ho') σ (r.set i (some d')) := e.mutI (isO_o k) h hs h'
theorem StoOk.un {A : List Addr} (hA : StoOk c.K c.cm H0 G S H σ r A) (i : Nat) (hk : kd G i = .o ∨ kd G i = .v) (hS : ∀ a ∈ A, S' a = none) (eS : Ex S S') : StoOk c.K c.cm H0 (G.set i .v) S' H σ r A :=
  hA.sub hS (fun _ _ => rfl) eS (fun j b q hj kj sj => by
    have nj : i ≠ j := fun z => by subst z; rw [kd_set_self] at kj; cases kj
    rw [kd_set_ne nj] at kj
    exact hA.own j b q hj kj sj) fun j b kj hj => by
    have nj : i ≠ j := fun z => by subst z; rw [kd_set_self] at kj; rcases kj with ⟨_, kj⟩ | kj <;> cases kj
    rw [kd_set_ne nj]
    exact ⟨rfl, hj, rfl⟩
theorem EnvOk.sto_un (e : EnvOk c S0 H0 G S H σ r) (i : Nat) (hk : kd G i = .o ∨ kd G i = .v) : ∃ A, StoOk c.K c.cm H0 (G.set i .v) S H σ r A :=
  let ⟨A, hA⟩ := e.sto
  ⟨A, hA.un i hk (fun a ha => (hA.out a ha).1) Ex.refl⟩
/-- the own object in slot i becomes a value, as ho2 -/
theorem EnvOk.pubG (e : EnvOk c S0 H0 G S H σ r) (i : Nat) (k : kd G i = .o) {d : D} (h : r[i]? = some (some d)) {p : Addr} {ho ho2 : HO} (s1 : σ[i]? = some (some (.ref p))) (s2 : H p = some ho) (s3 : S p = none) (s4 : H0 p = none) (hrp : Rp c.K c.cm (upd S p ho2) (.ref p) d) :
    EnvOk c S0 H0 (G.set i .v) (upd S p ho2) (upd H p ho2) σ r := by
  have hk : kd G i = .o ∨ kd G i = .v := .inl k
  have ex : Ex S (upd S p ho2) := Ex.new s3
  refine ⟨⟨e.fwd.s.trans ex, e.fwd.h.put s4, e.fwd.sub.both, fun a u ha m => ?_⟩, e.len, fun j b hb => ?_, fun j l b b' q hj hk kj kk sj sk => ?_, let ⟨A, hA⟩ := e.sto; ⟨A, ?_⟩⟩
  · by_cases hh : a = p
    · subst hh; exact .inl s4
    · rw [upd_ne hh] at ha; exact e.fwd.new a u ha m
  · by_cases ne : i = j
    · subst ne
      rw [h] at hb; cases hb
      refine ⟨.ref p, s1, ?_⟩
      rw [kd_set_self]
      exact hrp
    · obtain ⟨u, h1, h2⟩ := e.slot j b hb
      refine ⟨u, h1, ?_⟩
      rw [kd_set_ne ne]
      cases kj : kd G j with
      | v => rw [kj] at h2; exact Rp.mono ex h2
      | b => rw [kj] at h2; exact RpB.mono h2 ex Ex.refl
      | s P => rw [kj] at h2; exact h2
      | w => rw [kj] at h2; exact h2
      | x a C dd =>
        rw [kj] at h2
        obtain ⟨y1, n, ns, ds, fs, y2, y3, y4, y5, y6⟩ := h2
        exact ⟨y1, n, ns, ds, fs, y2, y3, ex _ _ y4, y5, y6.mono ex⟩
      | o =>
        rw [kj] at h2
        obtain ⟨q, hq, z1, z2, z3, z4, z5⟩ := h2
        subst z1
        have : q ≠ p := fun z => by subst z; exact ne (e.sep i j d b q h hb (isO_o k) (isO_o kj) s1 h1)
        exact ⟨q, hq, rfl, by rw [upd_ne this]; exact z2, by rw [upd_ne this]; exact z3, z4, z5.mono ex⟩
      | i a =>
        rw [kj] at h2
        obtain ⟨z0, q, hq, z1, z2, z3, z4, z5⟩ := h2
        subst z1
        have : q ≠ p := fun z => by subst z; exact ne (e.sep i j d b q h hb (isO_o k) (by rw [kj]; trivial) s1 h1)
        exact ⟨z0, q, hq, rfl, by rw [upd_ne this]; exact z2, by rw [upd_ne this]; exact z3, z4, z5.mono ex⟩
  · have nj : i ≠ j := fun z => by subst z; rw [kd_set_self] at kj; cases kj
    have nl : i ≠ l := fun z => by subst z; rw [kd_set_self] at kk; cases kk
    rw [kd_set_ne nj] at kj
    rw [kd_set_ne nl] at kk
    exact e.sep j l b b' q hj hk kj kk sj sk
  · have np : ∀ a ∈ A, a ≠ p := fun a ha z => hA.own i d p h (isO_o k) s1 (z ▸ ha)
    refine hA.sub (fun a ha => by rw [upd_ne (np a ha)]; exact (hA.out a ha).1) (fun a ha => upd_ne (np a ha)) ex (fun j b q hj kj sj => ?_) fun j b kj hj => ?_
    · have nj : i ≠ j := fun z => by subst z; rw [kd_set_self] at kj; cases kj
      rw [kd_set_ne nj] at kj
      exact hA.own j b q hj kj sj
    · have nj : i ≠ j := fun z => by subst z; rw [kd_set_self] at kj; rcases kj with ⟨_, kj⟩ | kj <;> cases kj
      rw [kd_set_ne nj]
      exact ⟨rfl, hj, rfl⟩
theorem upd_eq {H : Hp} {p : Addr} {o : HO} (h : H p = some o) : upd H p o = H := by
  funext a
  by_cases e : a = p
  · rw [e, upd_same, h]
  · rw [upd_ne e]
/-- an own dict becomes a value: it is locked -/
theorem EnvOk.pubD (e : EnvOk c S0 H0 G S H σ r) (i : Nat) (k : kd G i = .o) {d : D} (h : r[i]? = some (some d)) (hd : isDct d = true) : ∃ p u, H p = some u ∧ Mut (some u) ∧ ∀ w, ∃ S', EnvOk c S0 H0 (G.set i .v) S' (upd H p (.frz w u)) σ r := by
  obtain ⟨p, ho, s1, s2, s3, s4, s5⟩ := e.own k h
  exact ⟨p, ho, s2, s5.mut, fun w => ⟨_, e.pubG i k h s1 s2 s3 s4 ((s5.mono (Ex.new s3)).pubD hd upd_same).1⟩⟩
/-- the own object in slot i becomes a value -/
theorem EnvOk.pub (e : EnvOk c S0 H0 G S H σ r) (i : Nat) (hk : kd G i = .o ∨ kd G i = .v) (nd : ∀ d, r[i]? = some (some d) → isDct d = false) : ∃ S', EnvOk c S0 H0 (G.set i .v) S' H σ r := by
  by_cases k : kd G i = .o
  · cases h : r[i]? with
    | none =>
      refine ⟨S, e.fwd, e.len, fun j b hb => ?_, fun j l b b' q hj hk kj kk sj sk => ?_, e.sto_un i hk⟩
      · have ne : i ≠ j := fun z => by subst z; rw [h] at hb; cases hb
        obtain ⟨u, h1, h2⟩ := e.slot j b hb
        exact ⟨u, h1, by rw [kd_set_ne ne]; exact h2⟩
      · have nj : i ≠ j := fun z => by subst z; rw [h] at hj; cases hj
        have nl : i ≠ l := fun z => by subst z; rw [h] at hk; cases hk
        rw [kd_set_ne nj] at kj
        rw [kd_set_ne nl] at kk
        exact e.sep j l b b' q hj hk kj kk sj sk
    | some od =>
      cases od with
      | none =>
        refine ⟨S, e.fwd, e.len, fun j b hb => ?_, fun j l b b' q hj hk kj kk sj sk => ?_, e.sto_un i hk⟩
        · have ne : i ≠ j := fun z => by subst z; rw [h] at hb; cases hb
          obtain ⟨u, h1, h2⟩ := e.slot j b hb
          exact ⟨u, h1, by rw [kd_set_ne ne]; exact h2⟩
        · have nj : i ≠ j := fun z => by subst z; rw [h] at hj; cases hj
          have nl : i ≠ l := fun z => by subst z; rw [h] at hk; cases hk
          rw [kd_set_ne nj] at kj
          rw [kd_set_ne nl] at kk
          exact e.sep j l b b' q hj hk kj kk sj sk
      | some d =>
        obtain ⟨p, ho, s1, s2, s3, s4, s5⟩ := e.own k h
        have := e.pubG i k h s1 s2 s3 s4 (ho2 := ho) ((s5.mono (Ex.new s3)).pub (nd d h) upd_same)
        rw [upd_eq s2] at this
        exact ⟨_, this⟩
  · have k' : kd G i = .v := hk.resolve_left k
    have all : ∀ j, kd (G.set i .v) j = kd G j := fun j => by
      by_cases ne : i = j
      · subst ne; rw [kd_set_self, k']
      · exact kd_set_ne ne
    exact ⟨S, e.fwd, e.len, fun j b hb => by rw [all]; exact e.slot j b hb, fun j l b b' q hj hk kj kk sj sk => e.sep j l b b' q hj hk ((all j) ▸ kj) ((all l) ▸ kk) sj sk, e.sto_un i hk⟩
end
end Dx
end S_DxA
section S_DxB
set_option Elab.async false
set_option linter.all false
set_option maxRecDepth 100000
set_option maxHeartbeats 2000000
namespace Dx
open PySem L2
/-- what is wanted behind a result, from (S, H) on -/
def PostG (c : Cf) (σ : St) (S H : Hp) {α : Type} (r : Res α) (k : α → Hp → Hp → Prop) : Prop :=
  match r with
  | .ok a => ∀ S' H', Fwd S H S' H' → k a S' H'
  | .err n ns vs => ∀ C dd S' H' fs, c.cm n = some C → Fwd S H S' H' → S' dd = some (.xd fs) → ns = fs.map (·.1) → RpA c.K c.cm S' (fs.map (·.2)) vs → c.W (.ref C) (some dd) σ H'
  | .bad => False
section
variable {c : Cf} {σ : St} {S H S1 H1 : Hp} {α β : Type} {r : Res α} {k k' : α → Hp → Hp → Prop}
theorem PostG.mono (h : PostG c σ S H r k) (f : Fwd S H S1 H1) : PostG c σ S1 H1 r k := by
  cases r with
  | ok a => exact fun S' H' g => h S' H' (f.trans g)
  | err n ns vs => exact fun C dd S' H' fs h1 g h2 h3 h4 => h C dd S' H' fs h1 (f.trans g) h2 h3 h4
  | bad => exact h
theorem PostG.imp (h : PostG c σ S H r k) (hk : ∀ a S' H', Fwd S H S' H' → k a S' H' → k' a S' H') : PostG c σ S H r k' := by
  cases r with
  | ok a => exact fun S' H' g => hk a S' H' g (h S' H' g)
  | err n ns vs => exact h
  | bad => exact h
theorem PostG.unbind {g : α → Res β} {k : β → Hp → Hp → Prop} (h : PostG c σ S H (r.bind g) k) : PostG c σ S H r fun a S' H' => PostG c σ S' H' (g a) k := by
  cases r with
  | ok a => exact fun S' H' f => PostG.mono (show PostG c σ S H (g a) k from h) f
  | err n ns vs => exact h
  | bad => exact h
end
/-- x where p holds; nothing is reckoned for it -/
noncomputable def guard {α : Type} (p : Prop) (x : Res α) : Res α := @ite _ p (Classical.propDecidable p) x .bad
theorem guard_pos {α : Type} {p : Prop} {x : Res α} (h : p) : guard p x = x := by unfold guard; exact if_pos h
theorem PostG.gd {c : Cf} {σ : St} {S H : Hp} {α : Type} {p : Prop} {x : Res α} {k : α → Hp → Hp → Prop} (h : PostG c σ S H (guard p x) k) : p ∧ PostG c σ S H x k := by
  by_cases hp : p
  · rw [guard_pos hp] at h; exact ⟨hp, h⟩
  · unfold guard at h; rw [if_neg hp] at h; exact h.elim
/-- a mode: what the heap ahead, the heaps behind, the machine's result and the data have in common -/
abbrev Md (β α : Type) := Hp → Hp → Hp → β → α → Prop
class Anti {β α : Type} (R : Md β α) : Prop where
  anti : ∀ {H H2 S' H' : Hp} {b : β} {a : α}, Ex H H2 → R H2 S' H' b a → R H S' H' b a
def mV (c : Cf) : Md V D := fun _ S' _ v d => Rp c.K c.cm S' v d
def mB (c : Cf) : Md V D := fun _ S' H' v d => RpB c.K c.cm S' H' v d
def mO (c : Cf) : Md V D := fun H S' H' v d => ∃ p ho, v = .ref p ∧ H p = none ∧ S' p = none ∧ H' p = some ho ∧ RpO c.K c.cm S' ho d
def mA (c : Cf) : Md (List V) (List D) := fun _ S' _ vs ds => RpA c.K c.cm S' vs ds
def mE (α : Type) : Md α α := fun _ _ _ b a => b = a
instance {c : Cf} : Anti (mV c) := ⟨fun _ h => h⟩
instance {c : Cf} : Anti (mB c) := ⟨fun _ h => h⟩
instance {c : Cf} : Anti (mA c) := ⟨fun _ h => h⟩
instance {α : Type} : Anti (mE α) := ⟨fun _ h => h⟩
instance {c : Cf} : Anti (mO c) := ⟨fun e ⟨p, ho, h1, h2, h3⟩ => ⟨p, ho, h1, e.nn h2, h3⟩⟩
/-- the reading of a piece whose data is f -/
def rd (c : Cf) (G : List Ow) {α β : Type} (f : Rho → Res α) (R : Md β α) : St → Hp → (β → Hp → Prop) → Prop := fun σ H Q =>
  ∃ S0 H0 S r, EnvOk c S0 H0 G S H σ r ∧ PostG c σ S H (f r) fun a S' H' => ∀ b, R H S' H' b a → Q b H'
abbrev tV (c : Cf) (G : List Ow) (f : Rho → Res D) : TE := rd c G f (mV c)
abbrev tR (c : Cf) (G : List Ow) (f : Rho → Res D) : TE := rd c G f (mB c)
abbrev tO (c : Cf) (G : List Ow) (f : Rho → Res D) : TE := rd c G f (mO c)
abbrev tT (c : Cf) (G : List Ow) (f : Rho → Res Bool) : TT := rd c G f (mE Bool)
abbrev tAs (c : Cf) (G : List Ow) (f : Rho → Res (List D)) : TA := rd c G f (mA c)
theorem pe_imp {X : Cx} {e : Expr} {t t' : TE} (h : PE X e t) (k : ∀ σ H Q, t' σ H Q → t σ H Q) : PE X e t' := ⟨fun pins s σ H Q I q => h.run pins s σ H Q I (k σ H Q q)⟩
theorem pt_imp {X : Cx} {e : Expr} {t t' : TT} (h : PT X e t) (k : ∀ σ H Q, t' σ H Q → t σ H Q) : PT X e t' := ⟨fun pins s σ H Q I q => h.run pins s σ H Q I (k σ H Q q)⟩
theorem pa_imp {X : Cx} {es : List Expr} {t t' : TA} (h : PA X es t) (k : ∀ σ H Q, t' σ H Q → t σ H Q) : PA X es t' := ⟨fun p pins s σ H Q I q => h.run p pins s σ H Q I (k σ H Q q)⟩
theorem ps_imp {X : Cx} {st : Stmt} {t t' : TS} (h : PS X st t) (k : ∀ E σ H, t' E σ H → t E σ H) : PS X st t' := ⟨fun pins s σ H E I q => h.run pins s σ H E I (k E σ H q)⟩
theorem pss_imp {X : Cx} {st : List Stmt} {t t' : TS} (h : PSs X st t) (k : ∀ E σ H, t' E σ H → t E σ H) : PSs X st t' := ⟨fun pins s σ H E I q => h.run pins s σ H E I (k E σ H q)⟩
section
variable {c : Cf} {G : List Ow} {σ : St} {S0 H0 S H : Hp} {r : Rho} {α β γ : Type}
/-- one piece, then what follows -/
theorem rd_seq {f : Rho → Res α} {R : Md β α} (e : EnvOk c S0 H0 G S H σ r) {g : α → Res γ} {k : γ → Hp → Hp → Prop} (p : PostG c σ S H ((f r).bind g) k) {Q : β → Hp → Prop}
    (h : ∀ a b S' H', Fwd S H S' H' → EnvOk c S0 H0 G S' H' σ r → R H S' H' b a → PostG c σ S' H' (g a) k → Q b H') : rd c G f R σ H Q :=
  ⟨S0, H0, S, r, e, p.unbind.imp fun a S' H' fw hk b hb => h a b S' H' fw (e.go fw) hb hk⟩
theorem PostG.anti {R : Md β α} [Anti R] {H2 : Hp} {x : Res α} {Q : β → Hp → Prop} (e : Ex H H2) {S2 : Hp} (p : PostG c σ S2 H2 x fun a S' H' => ∀ b, R H S' H' b a → Q b H') :
    PostG c σ S2 H2 x fun a S' H' => ∀ b, R H2 S' H' b a → Q b H' := p.imp fun _ _ _ _ hk b hb => hk b (Anti.anti e hb)
/-- the wish behind a value that is there -/
theorem PostG.here {R : Md β α} {a : α} {b : β} {Q : β → Hp → Prop} (p : PostG c σ S H (.ok a) fun a S' H' => ∀ b, R H S' H' b a → Q b H') (e : Ex S H) (h : R H S H b a) : Q b H := p S H (Fwd.refl e) b h
theorem PostG.go {a : α} {k : α → Hp → Hp → Prop} (p : PostG c σ S H (.ok a) k) (e : Ex S H) : k a S H := p S H (Fwd.refl e)
/-- .. behind a new object that stays; that is kept own -/
theorem PostG.laid {d : D} {o : HO} {q : Addr} {Q : VK} (p : PostG c σ S H (.ok d) fun a S' H' => ∀ b, mV c H S' H' b a → Q b H') (e : Ex S H) (n : H q = none) (h : Rp c.K c.cm (upd S q o) (.ref q) d) : Q (.ref q) (upd H q o) :=
  p _ _ (Fwd.both e n) _ h
theorem PostG.kept {d : D} {o : HO} {q : Addr} {Q : VK} (p : PostG c σ S H (.ok d) fun a S' H' => ∀ b, mO c H S' H' b a → Q b H') (e : Ex S H) (n : H q = none) (h : RpO c.K c.cm S o d) : Q (.ref q) (upd H q o) :=
  p _ _ (Fwd.heap e n) _ ⟨q, o, rfl, n, e.nn n, upd_same, h⟩
end
/-- .. or so as soon as a told object is locked -/
def Lo (Q : Hp → Prop) (H : Hp) : Prop := Q H ∨ ∃ p u, H p = some u ∧ Mut (some u) ∧ ∀ w, Q (upd H p (.frz w u))
theorem Fwd.pubF {S H S' H' : Hp} {p : Addr} {o : HO} (f : Fwd S H S' H') (n : H p = none) (ns : S' p = none) : Fwd S H (upd S' p o) (upd H' p o) :=
  ⟨f.s.trans (Ex.new ns), f.h.put n, f.sub.both, fun a u ha m => by
    by_cases hh : a = p
    · subst hh; exact .inl n
    · rw [upd_ne hh] at ha; exact f.new a u ha m⟩
section
variable {X : Cx}
theorem pe_lock {e : Expr} {t t2 : TE} (h : PE X e t) (k : ∀ σ H Q, t2 σ H Q → t σ H fun v H' => Lo (Q v) H') : PE X e t2 := ⟨fun pins s σ H Q I q => thn (h.run pins s σ H _ I (k _ _ _ q)) fun u s' ⟨v, H', I', r, z⟩ => by
  rcases z with z | ⟨p, ho, h1, h2, z⟩
  · exact ⟨v, H', I', r, z⟩
  · obtain ⟨od, I2⟩ := I'.lock h1 h2
    exact ⟨v, _, I2, r, z od⟩⟩
theorem pss_lock {st : List Stmt} {t t2 : TS} (h : PSs X st t) (k : ∀ E σ H, t2 E σ H → Lo (fun H => t E σ H) H) : PSs X st t2 := ⟨fun pins s σ H E I q => by
  rcases k _ _ _ q with z | ⟨p, ho, h1, h2, z⟩
  · exact h.run pins s σ H E I z
  · obtain ⟨od, I2⟩ := I.lock h1 h2
    exact h.run pins s σ _ E I2 (z od)⟩
end
section
variable {X : Cx} {c : Cf} {G : List Ow} {f f1 f2 : Rho → Res D} {a b e : Expr} {pos : Pos}
theorem de_pub (h : PE X e (tO c G f)) : PE X e (tV c G f) := pe_lock h fun σ H Q ⟨S0, H0, S, r, ok, p⟩ => ⟨S0, H0, S, r, ok, by
  revert p
  cases f r with
  | ok d =>
    intro p S' H' fw b hb
    obtain ⟨q, ho, rfl, h1, h2, h3, h4⟩ := hb
    cases hd : isDct d with
    | false =>
      have fw' := fw.pub h1 h2 h3
      exact .inl (p _ H' fw' _ ((h4.mono (Ex.new h2)).pub hd upd_same))
    | true => exact .inr ⟨q, ho, h3, h4.mut, fun w => p _ _ (fw.pubF h1 h2) _ ((h4.mono (Ex.new h2)).pubD hd upd_same).1⟩
  | err n ns vs => exact id
  | bad => exact id⟩
theorem db_of (h : PE X e (tV c G f)) : PE X e (tR c G f) := pe_imp h fun σ H Q ⟨S0, H0, S, r, ok, p⟩ => ⟨S0, H0, S, r, ok, p.imp fun _ _ _ _ hk b hb => hk b (.inl hb)⟩
theorem db_own (h : PE X e (tO c G f)) : PE X e (tR c G f) := db_of (de_pub h)
def dVar (i : Nat) : Rho → Res D := fun r => match r[i]? with
  | some (some d) => .ok d
  | _ => .bad
def dC (d : D) : Rho → Res D := fun _ => .ok d
theorem of_dVar {σ : St} {S H : Hp} {i : Nat} {r : Rho} {k : D → Hp → Hp → Prop} (p : PostG c σ S H (dVar i r) k) : ∃ d, r[i]? = some (some d) ∧ PostG c σ S H (.ok d) k := by
  unfold dVar at p
  split at p
  · exact ⟨_, by assumption, p⟩
  · exact p.elim
theorem de_var (i : Nat) {x : Str} (h : PE X (.Name x pos) (tVar i)) (k : kd G i = .v) : PE X (.Name x pos) (tV c G (dVar i)) := pe_imp h fun σ H Q ⟨S0, H0, S, r, ok, p⟩ => by
  obtain ⟨d, hd, p⟩ := of_dVar p
  obtain ⟨v, h1, h2⟩ := ok.slot i d hd
  rw [k] at h2
  exact ⟨v, h1, p.here ok.ex h2⟩
theorem db_var (i : Nat) {x : Str} (h : PE X (.Name x pos) (tVar i)) (k : kd G i = .v ∨ isO (kd G i) ∨ kd G i = .b) : PE X (.Name x pos) (tR c G (dVar i)) := pe_imp h fun σ H Q ⟨S0, H0, S, r, ok, p⟩ => by
  obtain ⟨d, hd, p⟩ := of_dVar p
  obtain ⟨v, h1, h2⟩ := ok.slot i d hd
  refine ⟨v, h1, p.here ok.ex ?_⟩
  rcases k with k | k | k
  · rw [k] at h2; exact .inl h2
  · obtain ⟨q, ho, z1, z2, z3, z4, z5⟩ := h2.o_of k
    exact .inr ⟨q, ho, z1, z2, z5⟩
  · rw [k] at h2
    exact RpB.mono h2 Ex.refl ok.fwd.h
theorem de_c {v : V} {d : D} (h : PE X e (tC v)) (hd : ∀ S, Rp c.K c.cm S v d) : PE X e (tV c G (dC d)) := pe_imp h fun σ H Q ⟨S0, H0, S, r, ok, p⟩ => p.here ok.ex (hd S)
theorem de_int {i : Int} {j : Nat} : PE X (.Constant (.int i) j pos) (tV c G (dC (.int i))) := de_c pe_int fun _ => .int i
theorem de_bl {b : Bool} {j : Nat} : PE X (.Constant (.bool b) j pos) (tV c G (dC (.bl b))) := de_c pe_bl fun _ => .bl b
theorem de_non {j : Nat} : PE X (.Constant .none j pos) (tV c G (dC .non)) := de_c pe_non fun _ => .non
theorem de_str {x : Str} {j : Nat} : PE X (.Constant (.str x) j pos) (tV c G (dC (.str x))) := de_c pe_str fun _ => .str x
def dOp (g : D → D → Res D) (f1 f2 : Rho → Res D) : Rho → Res D := fun r => (f1 r).bind fun x => (f2 r).bind fun y => g x y
def OpS (c : Cf) (R : Md V D) (r2 : R2) (g : D → D → Res D) : Prop := ∀ (σ : St) (S H : Hp) (x y : V) (d e : D) (Q : VK), Ex S H → RpB c.K c.cm S H x d → RpB c.K c.cm S H y e →
  PostG c σ S H (g d e) (fun a S' H' => ∀ b, R H S' H' b a → Q b H') → r2 x y H Q
theorem op_rd {R : Md V D} [Anti R] {r2 : R2} {g : D → D → Res D} (hs : OpS c R r2 g) : ∀ σ H Q, rd c G (dOp g f1 f2) R σ H Q → tOp r2 (tR c G f1) (tR c G f2) σ H Q := fun σ H Q ⟨S0, H0, S, r, ok, p⟩ =>
  rd_seq ok p fun x v S1 H1 w1 o1 m1 p1 => rd_seq o1 p1 fun y u S2 H2 w2 o2 m2 p2 => hs σ S2 H2 v u x y Q o2.ex (RpB.mono m1 w2.s w2.h) m2 (p2.anti (w1.h.trans w2.h))
theorem de_op {R : Md V D} [Anti R] {op : Operator} {r2 : R2} {g : D → D → Res D} (ho : OpR X (binaryOp op) r2) (hs : OpS c R r2 g) (ha : PE X a (tR c G f1)) (hb : PE X b (tR c G f2)) : PE X (.BinOp a op b pos) (rd c G (dOp g f1 f2) R) :=
  pe_imp (pe_op ho ha hb) (op_rd hs)
theorem de_cmp {R : Md V D} [Anti R] {op : CmpOp} {r2 : R2} {g : D → D → Res D} (ho : OpR X (compareOp op) r2) (hs : OpS c R r2 g) (ha : PE X a (tR c G f1)) (hb : PE X b (tR c G f2)) (hm : behindInMarks op b = false) :
    PE X (.Compare a [op] [b] pos) (rd c G (dOp g f1 f2) R) := pe_imp (pe_cmpR ho ha hb hm) (op_rd hs)
/-- a truth value as a test -/
def asB : D → Res Bool
  | .bl b => .ok b
  | _ => .bad
def dT (f : Rho → Res D) : Rho → Res Bool := fun r => (f r).bind asB
theorem of_asB {σ : St} {S H : Hp} {d : D} {k : Bool → Hp → Hp → Prop} (p : PostG c σ S H (asB d) k) : ∃ b, d = .bl b ∧ PostG c σ S H (.ok b) k := by
  cases d with
  | bl b => exact ⟨b, rfl, p⟩
  | _ => exact p.elim
theorem dt_cmp {op : CmpOp} {r2 : R2} {g : D → D → Res D} (ho : OpR X (compareOp op) r2) (hs : OpS c (mV c) r2 g) (ha : PE X a (tR c G f1)) (hb : PE X b (tR c G f2)) (hm : behindInMarks op b = false) :
    PT X (.Compare a [op] [b] pos) (tT c G (dT (dOp g f1 f2))) := pt_imp (pt_cmpR ho ha hb hm) fun σ H Q ⟨S0, H0, S, r, ok, p⟩ => by
  refine op_rd (G := G) (f1 := f1) (f2 := f2) hs σ H _ (rd_seq ok p fun d v S1 H1 w1 o1 m1 p1 => ?_)
  obtain ⟨b, rfl, p1⟩ := of_asB p1
  cases m1
  exact ⟨b, rfl, p1.go o1.ex _ rfl⟩
/-- an expression whose value is True or False, as a test -/
theorem dt_val (h : PE X e (tV c G f)) (he : ∀ whole, isTrue e X.env whole = (do let v ← whole; standAt e.pos; holding [v] (truthy v)) := by intro _; rfl) : PT X e (tT c G (dT f)) :=
  pt_imp (pt_val h he) fun σ H Q ⟨S0, H0, S, r, ok, p⟩ => rd_seq ok p fun d v S1 H1 w1 o1 m1 p1 => by
    obtain ⟨b, rfl, p1⟩ := of_asB p1
    cases m1
    exact ⟨b, rfl, p1.go o1.ex _ rfl⟩
variable {t1 t2 : Rho → Res Bool} {rest : List Expr}
def dAnd (t u : Rho → Res Bool) : Rho → Res Bool := fun r => (t r).bind fun b => if b = true then u r else .ok false
def dOr (t u : Rho → Res Bool) : Rho → Res Bool := fun r => (t r).bind fun b => if b = true then .ok true else u r
def dNot (t : Rho → Res Bool) : Rho → Res Bool := fun r => (t r).bind fun b => .ok (!b)
def dIf {α : Type} (t : Rho → Res Bool) (f g : Rho → Res α) : Rho → Res α := fun r => (t r).bind fun b => if b = true then f r else g r
theorem pw_imp {t t' : TT} (h : PW X e t) (k : ∀ σ H Q, t' σ H Q → t σ H Q) : PW X e t' := ⟨fun w pins s σ H Q I q => h.run w pins s σ H Q I (k σ H Q q)⟩
theorem dw_and1 (ha : PT X a (tT c G t1)) : PW X (.BoolOp .And [a] pos) (tT c G t1) := pw_and1 ha
theorem dw_or1 (ha : PT X a (tT c G t1)) : PW X (.BoolOp .Or [a] pos) (tT c G t1) := pw_or1 ha
theorem dw_and (ha : PT X a (tT c G t1)) (hb : PW X (.BoolOp .And (b :: rest) pos) (tT c G t2)) : PW X (.BoolOp .And (a :: b :: rest) pos) (tT c G (dAnd t1 t2)) := pw_imp (pw_and ha hb) fun σ H Q ⟨S0, H0, S, r, ok, p⟩ =>
  rd_seq ok p fun x v S1 H1 w1 o1 m1 p1 => by
    rw [show v = x from m1]
    cases x with
    | true => exact ⟨S0, H0, S1, r, o1, p1⟩
    | false => exact p1.go o1.ex _ rfl
theorem dw_or (ha : PT X a (tT c G t1)) (hb : PW X (.BoolOp .Or (b :: rest) pos) (tT c G t2)) : PW X (.BoolOp .Or (a :: b :: rest) pos) (tT c G (dOr t1 t2)) := pw_imp (pw_or ha hb) fun σ H Q ⟨S0, H0, S, r, ok, p⟩ =>
  rd_seq ok p fun x v S1 H1 w1 o1 m1 p1 => by
    rw [show v = x from m1]
    cases x with
    | true => exact p1.go o1.ex _ rfl
    | false => exact ⟨S0, H0, S1, r, o1, p1⟩
theorem dt_not (ha : PT X a (tT c G t1)) : PT X (.UnaryOp .Not a pos) (tT c G (dNot t1)) := pt_imp (pt_not ha) fun σ H Q ⟨S0, H0, S, r, ok, p⟩ =>
  rd_seq ok p fun x v S1 H1 w1 o1 m1 p1 => by
    rw [show v = x from m1]
    exact p1.go o1.ex _ rfl
/-- and, or, not as values: all True or False -/
def dAndV (f g : Rho → Res D) : Rho → Res D := fun r => (f r).bind fun x => (asB x).bind fun b => if b = true then g r else .ok (.bl false)
def dOrV (f g : Rho → Res D) : Rho → Res D := fun r => (f r).bind fun x => (asB x).bind fun b => if b = true then .ok (.bl true) else g r
def dNotV (f : Rho → Res D) : Rho → Res D := fun r => (f r).bind fun x => (asB x).bind fun b => .ok (.bl (!b))
end
end Dx
end S_DxB
section S_DxC
set_option Elab.async false
set_option linter.all false
set_option maxRecDepth 100000
set_option maxHeartbeats 2000000
namespace Dx
open PySem L2
mutual
def toPy : D → Option PyData
  | .non => some .none
  | .bl b => some (.bool b)
  | .int i => some (.int i)
  | .str s => some (.str s)
  | .lst ds => (toPyL ds).map .list
  | .fz ds => (toPyL ds).map .list
  | .tup ds => (toPyL ds).map .tuple
  | .kt ds => (toPyL ds).map .tuple
  | .dk _ _ => none
  | .dt _ _ => none
  | .obj _ _ _ => none
  | .own _ => none
  | .st _ _ => none
def toPyL : List D → Option (List PyData)
  | [] => some []
  | d :: ds => match toPy d, toPyL ds with
    | some p, some ps => some (p :: ps)
    | _, _ => none
end
section
variable {K : PySem.W.Frag} {cm : CM} {S H : Hp}
mutual
theorem Rp.dp (e : Ex S H) : ∀ {v : V} {d : D} {p : PyData}, Rp K cm S v d → toPy d = some p → Dp K H v p
  | _, .non, _, h, q => by cases h; cases q; exact .non
  | _, .bl _, _, h, q => by cases h; cases q; exact .bl _
  | _, .int _, _, h, q => by cases h; cases q; exact .int _
  | _, .str _, _, h, q => by cases h; cases q; exact .str _
  | _, .lst ds, _, h, q => by
    cases h with | lst a r =>
    rw [toPy] at q
    obtain ⟨ps, h1, rfl⟩ := Option.map_eq_some_iff.mp q
    exact .lst (.inl (.inl (e _ _ a))) (RpA.dp e r h1)
  | _, .fz ds, _, h, q => by
    cases h with | fz a r =>
    rw [toPy] at q
    obtain ⟨ps, h1, rfl⟩ := Option.map_eq_some_iff.mp q
    exact .lst (e.l a) (RpA.dp e r h1)
  | _, .tup ds, _, h, q => by
    cases h with | tup a r =>
    rw [toPy] at q
    obtain ⟨ps, h1, rfl⟩ := Option.map_eq_some_iff.mp q
    exact .tup (.inl (.inl (e _ _ a))) (RpA.dp e r h1)
  | _, .kt ds, _, h, q => by
    cases h with | kt a r =>
    rw [toPy] at q
    obtain ⟨ps, h1, rfl⟩ := Option.map_eq_some_iff.mp q
    exact .tup (e.t a) (RpA.dp e r h1)
  | _, .dk _ _, _, h, q => by cases q
  | _, .dt _ _, _, h, q => by cases q
  | _, .obj _ _ _, _, h, q => by cases q
theorem RpA.dp (e : Ex S H) : ∀ {vs : List V} {ds : List D} {ps : List PyData}, RpA K cm S vs ds → toPyL ds = some ps → DpAll K H vs ps
  | _, [], _, h, q => by cases h; cases q; exact .nil
  | _, d :: ds, _, h, q => by
    cases h with | cons a r =>
    rw [toPyL] at q
    cases h1 : toPy d with
    | none => rw [h1] at q; cases q
    | some p =>
      cases h2 : toPyL ds with
      | none => rw [h1, h2] at q; cases q
      | some ps =>
        rw [h1, h2] at q
        cases q
        exact .cons (Rp.dp e a h1) (RpA.dp e r h2)
end
theorem RpB.dp {v : V} {d : D} {p : PyData} (e : Ex S H) (h : RpB K cm S H v d) (q : toPy d = some p) : Dp K H v p := by
  rcases h with h | ⟨a, ho, rfl, h2, h3⟩
  · exact h.dp e q
  · cases h3 with
    | lst r =>
      rw [toPy] at q
      obtain ⟨ps, h1, rfl⟩ := Option.map_eq_some_iff.mp q
      exact .lst (.inl (.inl h2)) (r.dp e h1)
    | dk _ _ => cases q
    | dt _ _ => cases q
    | obj _ _ _ => cases q
end
noncomputable def addD : D → D → Res D
  | .int i, .int j => .ok (.int (i + j))
  | .str a, .str b => guard (a.length + b.length ≤ sizeLine) (.ok (.str (a ++ b)))
  | .tup a, .tup b => guard (a.length + b.length ≤ sizeLine) (.ok (.tup (a ++ b)))
  | .lst a, .lst b => guard (a.length + b.length ≤ sizeLine) (.ok (.lst (a ++ b)))
  | _, _ => .bad
def rAddX (K : PySem.W.Frag) : R2 := fun x y H Q => (rI0 (fun i j => .int (i + j))) x y H Q ∨ (∃ i j, x = .str i ∧ y = .str j ∧ i.length + j.length ≤ sizeLine ∧ Q (.str (i ++ j)) H) ∨ rCatA K x y H Q ∨ rCat x y H Q
section
variable {X : Cx} {c : Cf}
theorem or_add : OpR X (binaryOp .Add) (rAddX X.K) := op_add.or (op_add_str.or (op_catA.or op_cat))
theorem PostG.ite {σ : St} {S H : Hp} {α : Type} {p : Prop} [Decidable p] {x : Res α} {k : α → Hp → Hp → Prop} (h : PostG c σ S H (if p then x else .bad) k) : p ∧ PostG c σ S H x k := by
  by_cases hp : p
  · rw [if_pos hp] at h; exact ⟨hp, h⟩
  · rw [if_neg hp] at h; exact h.elim
theorem os_add : OpS c (mV c) (rAddX c.K) addD := by
  intro σ S H x y d e Q ex hx hy p
  unfold addD at p
  split at p
  · cases hx.int; cases hy.int
    exact .inl ⟨_, _, rfl, rfl, p.here ex (.int _)⟩
  · cases hx.str; cases hy.str
    obtain ⟨hl, p⟩ := p.gd
    exact .inr (.inl ⟨_, _, rfl, rfl, hl, p.here ex (.str _)⟩)
  · obtain ⟨q1, xs, rfl, a1, r1, s1⟩ := hx.tup ex
    obtain ⟨q2, ys, rfl, a2, r2, s2⟩ := hy.tup ex
    obtain ⟨hl, p⟩ := p.gd
    refine .inr (.inr (.inl ⟨_, _, xs, ys, rfl, rfl, a1, a2, by rw [r1.length, r2.length]; exact hl, fun h => ?_, fun _ h => ?_, fun _ _ q hq => ?_⟩))
    · subst h; cases r1; exact p.here ex (.tup s2 r2)
    · subst h; cases r2; rw [List.append_nil] at p; exact p.here ex (.tup s1 r1)
    · exact p.laid ex hq (.tup upd_same ((r1.app r2).mono (Ex.new (ex.nn hq))))
  · obtain ⟨q1, xs, rfl, a1, r1⟩ := hx.list ex
    obtain ⟨q2, ys, rfl, a2, r2⟩ := hy.list ex
    obtain ⟨hl, p⟩ := p.gd
    refine .inr (.inr (.inr ⟨_, _, xs, ys, rfl, rfl, a1, a2, by rw [r1.length, r2.length]; exact hl, fun q hq => ?_⟩))
    exact p.laid ex hq (.lst upd_same ((r1.app r2).mono (Ex.new (ex.nn hq))))
  · exact p.elim
/-- list + list, the new list one's own -/
noncomputable def addL : D → D → Res D
  | .lst a, .lst b => guard (a.length + b.length ≤ sizeLine) (.ok (.lst (a ++ b)))
  | _, _ => .bad
def subD : D → D → Res D
  | .int i, .int j => .ok (.int (i - j))
  | _, _ => .bad
theorem os_sub : OpS c (mV c) (rI0 fun i j => .int (i - j)) subD := by
  intro σ S H x y d e Q ex hx hy p
  unfold subD at p
  split at p
  · cases hx.int; cases hy.int
    exact ⟨_, _, rfl, rfl, p.here ex (.int _)⟩
  · exact p.elim
def smallI (i : Int) : Prop := -(2 ^ 64) < i ∧ i < 2 ^ 64
theorem RpA.rep {K : PySem.W.Frag} {cm : CM} {S : Hp} {vs : List V} {ds : List D} (h : RpA K cm S vs ds) : ∀ n : Nat, RpA K cm S (List.replicate n vs).flatten (List.replicate n ds).flatten
  | 0 => .nil
  | n + 1 => by rw [List.replicate_succ, List.replicate_succ, List.flatten_cons, List.flatten_cons]; exact h.app (RpA.rep h n)
noncomputable def mulD : D → D → Res D
  | .int i, .int j => guard (smallI i ∨ smallI j) (.ok (.int (i * j)))
  | .lst a, .int k => guard (0 ≤ k ∧ k < 2 ^ 60 ∧ a.length * k.toNat ≤ sizeLine) (.ok (.lst (List.replicate k.toNat a).flatten))
  | _, _ => .bad
def rMulX : R2 := fun x y H Q => (rI CMul (fun i j => .int (i * j))) x y H Q ∨ rRep x y H Q
theorem or_mul : OpR X (binaryOp .Mult) rMulX := op_mul.or op_rep
theorem os_mul : OpS c (mV c) rMulX mulD := by
  intro σ S H x y d e Q ex hx hy p
  unfold mulD at p
  split at p
  · cases hx.int; cases hy.int
    obtain ⟨hl, p⟩ := p.gd
    exact .inl ⟨_, _, rfl, rfl, hl, p.here ex (.int _)⟩
  · obtain ⟨q1, xs, rfl, a1, r1⟩ := hx.list ex
    cases hy.int
    obtain ⟨⟨h0, h1, h2⟩, p⟩ := p.gd
    refine .inr ⟨_, _, xs, rfl, rfl, a1, by omega, by omega, by rw [r1.length]; exact h2, fun q hq => ?_⟩
    exact p.laid ex hq (.lst upd_same ((r1.rep _).mono (Ex.new (ex.nn hq))))
  · exact p.elim
noncomputable def fdivD : D → D → Res D
  | .int i, .int j => if 0 < j then guard (j < 4611686018427387904) (.ok (.int (i / j))) else guard (j ≠ 0 ∧ j.natAbs < 1073741824) (.ok (.int (i.fdiv j)))
  | _, _ => .bad
def rFdivX : R2 := fun x y H Q => (rI CDivW (fun i j => .int (i / j))) x y H Q ∨ (rI CDivN (fun i j => .int (i.fdiv j))) x y H Q
theorem or_fdiv : OpR X (binaryOp .FloorDiv) rFdivX := op_fdivW.or op_fdivN
theorem os_fdiv : OpS c (mV c) rFdivX fdivD := by
  intro σ S H x y d e Q ex hx hy p
  unfold fdivD at p
  split at p
  · cases hx.int; cases hy.int
    split at p
    · rename_i h
      obtain ⟨h2, p⟩ := p.gd
      exact .inl ⟨_, _, rfl, rfl, wide_div (b := 62) h (by omega) (by decide) (by decide), p.here ex (.int _)⟩
    · obtain ⟨h, p⟩ := p.gd
      exact .inr ⟨_, _, rfl, rfl, h, p.here ex (.int _)⟩
  · exact p.elim
noncomputable def modD : D → D → Res D
  | .int i, .int j => guard (0 < j) (.ok (.int (i % j)))
  | _, _ => .bad
theorem os_mod : OpS c (mV c) (rI (fun _ j => 0 < j) fun i j => .int (i % j)) modD := by
  intro σ S H x y d e Q ex hx hy p
  unfold modD at p
  split at p
  · cases hx.int; cases hy.int
    obtain ⟨h, p⟩ := p.gd
    exact ⟨_, _, rfl, rfl, h, p.here ex (.int _)⟩
  · exact p.elim
def intsD (g : Int → Int → Int) : D → D → Res D
  | .int i, .int j => .ok (.int (g i j))
  | _, _ => .bad
def eqFlat : D → D → Option Bool
  | .int i, .int j => some (decide (i = j))
  | .str a, .str b => some (decide (a = b))
  | .bl a, .bl b => some (decide (a = b))
  | .non, .non => some true
  | .non, .int _ => some false
  | .non, .bl _ => some false
  | .non, .str _ => some false
  | .int _, .non => some false
  | .bl _, .non => some false
  | .str _, .non => some false
  | .int _, .str _ => some false
  | .str _, .int _ => some false
  | .bl _, .str _ => some false
  | .str _, .bl _ => some false
  | _, _ => none
def eqDeep (d e : D) : Res Bool := match toPy d, toPy e with
  | some p, some q => if SeqAt.shaped p = true ∧ SeqAt.shaped q = true then .ok (PyData.eqv p q) else .bad
  | _, _ => .bad
def eqB (d e : D) : Res Bool := match eqFlat d e with
  | some b => .ok b
  | none => eqDeep d e
def eqD (d e : D) : Res D := (eqB d e).bind fun b => .ok (.bl b)
def neD (d e : D) : Res D := (eqB d e).bind fun b => .ok (.bl (!b))
theorem of_eqDeep {σ : St} {S H : Hp} {x y : V} {d e : D} {g : Bool → Res D} {k : D → Hp → Hp → Prop} (ex : Ex S H) (hx : RpB c.K c.cm S H x d) (hy : RpB c.K c.cm S H y e) (p : PostG c σ S H ((eqDeep d e).bind g) k) :
    ∃ u v, Dp c.K H x u ∧ Dp c.K H y v ∧ SeqAt.shaped u = true ∧ SeqAt.shaped v = true ∧ PostG c σ S H (g (PyData.eqv u v)) k := by
  unfold eqDeep at p
  split at p
  · rename_i u v h1 h2
    by_cases hs : SeqAt.shaped u = true ∧ SeqAt.shaped v = true
    · rw [if_pos hs] at p
      exact ⟨u, v, hx.dp ex h1, hy.dp ex h2, hs.1, hs.2, p⟩
    · rw [if_neg hs] at p
      exact p.elim
  · exact p.elim
theorem of_eqFlat {S H : Hp} {x y : V} {d e : D} {b : Bool} (hx : RpB c.K c.cm S H x d) (hy : RpB c.K c.cm S H y e) (h : eqFlat d e = some b) : scal x y = true ∧ decide (x = y) = b := by
  unfold eqFlat at h
  split at h
  · cases hx.int; cases hy.int; cases h; exact ⟨rfl, by simp⟩
  · cases hx.str; cases hy.str; cases h; exact ⟨rfl, by simp⟩
  · cases hx.bl; cases hy.bl; cases h; exact ⟨rfl, by simp⟩
  · cases hx.non; cases hy.non; cases h; exact ⟨rfl, rfl⟩
  · cases hx.non; cases hy.int; cases h; exact ⟨rfl, rfl⟩
  · cases hx.non; cases hy.bl; cases h; exact ⟨rfl, rfl⟩
  · cases hx.non; cases hy.str; cases h; exact ⟨rfl, rfl⟩
  · cases hx.int; cases hy.non; cases h; exact ⟨rfl, rfl⟩
  · cases hx.bl; cases hy.non; cases h; exact ⟨rfl, rfl⟩
  · cases hx.str; cases hy.non; cases h; exact ⟨rfl, rfl⟩
  · cases hx.int; cases hy.str; cases h; exact ⟨rfl, rfl⟩
  · cases hx.str; cases hy.int; cases h; exact ⟨rfl, rfl⟩
  · cases hx.bl; cases hy.str; cases h; exact ⟨rfl, rfl⟩
  · cases hx.str; cases hy.bl; cases h; exact ⟨rfl, rfl⟩
  · cases h
def rEqX (K : PySem.W.Frag) : R2 := fun x y H Q => rEq x y H Q ∨ rEqD K x y H Q
def rNeX (K : PySem.W.Frag) : R2 := fun x y H Q => rNe x y H Q ∨ rNeD K x y H Q
theorem or_eq (hu : X.A.units + 64 < cLine) : OpR X (compareOp .Eq) (rEqX X.K) := op_eq.or (op_eqD hu)
theorem or_ne (hu : X.A.units + 64 < cLine) : OpR X (compareOp .NotEq) (rNeX X.K) := op_ne.or (op_neD hu)
theorem os_eq : OpS c (mV c) (rEqX c.K) eqD := by
  intro σ S H x y d e Q ex hx hy p
  unfold eqD eqB at p
  split at p
  · rename_i b hb
    obtain ⟨h1, h2⟩ := of_eqFlat hx hy hb
    refine .inl ⟨h1, ?_⟩
    rw [h2]; exact p.here ex (.bl _)
  · obtain ⟨u, v, h1, h2, h3, h4, p⟩ := of_eqDeep ex hx hy p
    exact .inr ⟨u, v, h1, h2, h3, h4, p.here ex (.bl _)⟩
theorem os_ne : OpS c (mV c) (rNeX c.K) neD := by
  intro σ S H x y d e Q ex hx hy p
  unfold neD eqB at p
  split at p
  · rename_i b hb
    obtain ⟨h1, h2⟩ := of_eqFlat hx hy hb
    refine .inl ⟨h1, ?_⟩
    rw [h2]; exact p.here ex (.bl _)
  · obtain ⟨u, v, h1, h2, h3, h4, p⟩ := of_eqDeep ex hx hy p
    exact .inr ⟨u, v, h1, h2, h3, h4, p.here ex (.bl _)⟩
/-- by ints, by texts -/
def ordD (g : Int → Int → Bool) (h : Str → Str → Bool) : D → D → Res D
  | .int i, .int j => .ok (.bl (g i j))
  | .str a, .str b => .ok (.bl (h a b))
  | _, _ => .bad
def rOrd (g : Int → Int → Bool) (h : Str → Str → Bool) : R2 := fun x y H Q => (rI0 fun i j => .bl (g i j)) x y H Q ∨ ∃ i j, x = .str i ∧ y = .str j ∧ Q (.bl (h i j)) H
theorem os_ord {g : Int → Int → Bool} {h : Str → Str → Bool} : OpS c (mV c) (rOrd g h) (ordD g h) := by
  intro σ S H x y d e Q ex hx hy p
  unfold ordD at p
  split at p
  · cases hx.int; cases hy.int
    exact .inl ⟨_, _, rfl, rfl, p.here ex (.bl _)⟩
  · cases hx.str; cases hy.str
    exact .inr ⟨_, _, rfl, rfl, p.here ex (.bl _)⟩
  · exact p.elim
abbrev ltD : D → D → Res D := ordD (fun i j => decide (i < j)) fun i j => decide (i.cps.toList < j.cps.toList)
abbrev leD : D → D → Res D := ordD (fun i j => decide (i ≤ j)) fun i j => !decide (j.cps.toList < i.cps.toList)
abbrev gtD : D → D → Res D := ordD (fun i j => decide (j < i)) fun i j => decide (j.cps.toList < i.cps.toList)
abbrev geD : D → D → Res D := ordD (fun i j => decide (j ≤ i)) fun i j => !decide (i.cps.toList < j.cps.toList)
theorem or_lt : OpR X (compareOp .Lt) (rOrd (fun i j => decide (i < j)) fun i j => decide (i.cps.toList < j.cps.toList)) := op_lt.or op_lt_str
theorem or_le : OpR X (compareOp .LtE) (rOrd (fun i j => decide (i ≤ j)) fun i j => !decide (j.cps.toList < i.cps.toList)) := op_le.or op_le_str
theorem or_ge : OpR X (compareOp .GtE) (rOrd (fun i j => decide (j ≤ i)) fun i j => !decide (i.cps.toList < j.cps.toList)) := op_ge.or op_ge_str
/-- is None, is not None -/
def isN : D → Bool
  | .non => true
  | _ => false
def isD (neg : Bool) (d e : D) : Res D := if isN e = true then .ok (.bl (if neg then !isN d else isN d)) else .bad
theorem RpB.isN {K : PySem.W.Frag} {cm : CM} {S H : Hp} {v : V} {d : D} (h : RpB K cm S H v d) : decide (v = .non) = isN d := by
  rcases h with h | ⟨p, ho, rfl, h2, h3⟩
  · cases h <;> rfl
  · cases h3 <;> rfl
theorem os_is : OpS c (mV c) (fun x y H Q => y = .non ∧ Q (.bl (decide (x = .non))) H) (isD false) := by
  intro σ S H x y d e Q ex hx hy p
  obtain ⟨h, p⟩ := p.ite
  rw [hx.isN]
  refine ⟨of_decide_eq_true (hy.isN.trans h), p.here ex (.bl _)⟩
/-- x in: a list of data, a text in a text, a flat thing in a tuple of flat things -/
def flatD : D → Option V
  | .non => some .non
  | .bl b => some (.bl b)
  | .int i => some (.int i)
  | .str s => some (.str s)
  | _ => none
def flatDs : List D → Option (List V)
  | [] => some []
  | d :: ds => match flatD d, flatDs ds with
    | some v, some vs => some (v :: vs)
    | _, _ => none
def inDeep (d : D) (ds : List D) : Res Bool := match toPy d, toPyL ds with
  | some p, some ps => if SeqAt.shaped p = true ∧ SeqAt.shaped (.list ps) = true then .ok (ps.any fun z => PyData.eqv z p) else .bad
  | _, _ => .bad
def inFlat (d : D) (ds : List D) : Option Bool := match flatD d, flatDs ds with
  | some v, some vs => some (inV v vs)
  | _, _ => none
def inLst (d : D) (ds : List D) : Res Bool := match inFlat d ds with
  | some b => .ok b
  | none => inDeep d ds
def inTup (d : D) (ds : List D) : Res Bool := match inFlat d ds with
  | some b => .ok b
  | none => .bad
def inStr (a b : Str) : Bool := match a.cps.toList with
  | [n] => decide (n ∈ b.cps.toList)
  | _ => !(Builtin.Str.occurrences b a 0 b.length 1).isEmpty
def inB : D → D → Res Bool
  | d, .lst ds => inLst d ds
  | d, .fz ds => inLst d ds
  | d, .tup ds => inTup d ds
  | .str a, .str b => .ok (inStr a b)
  | _, _ => .bad
def inD (d e : D) : Res D := (inB d e).bind fun b => .ok (.bl b)
def ninD (d e : D) : Res D := (inB d e).bind fun b => .ok (.bl (!b))
theorem RpB.flat {K : PySem.W.Frag} {cm : CM} {S H : Hp} {v u : V} {d : D} (h : RpB K cm S H v d) (q : flatD d = some u) : v = u ∧ flatV u = true := by
  rcases h with h | ⟨p, ho, rfl, h2, h3⟩
  · cases h <;> first | (cases q; exact ⟨rfl, rfl⟩) | cases q
  · cases h3 <;> cases q
theorem RpA.flat {K : PySem.W.Frag} {cm : CM} {S : Hp} : ∀ {vs us : List V} {ds : List D}, RpA K cm S vs ds → flatDs ds = some us → vs = us ∧ us.all flatV = true
  | _, _, [], h, q => by cases h; cases q; exact ⟨rfl, rfl⟩
  | _, _, d :: ds, h, q => by
    cases h with | cons a r =>
    rw [flatDs] at q
    cases h1 : flatD d with
    | none => rw [h1] at q; cases q
    | some u =>
      cases h2 : flatDs ds with
      | none => rw [h1, h2] at q; cases q
      | some us =>
        rw [h1, h2] at q
        cases q
        obtain ⟨rfl, z1⟩ := RpB.flat (H := S) (.inl a) h1
        obtain ⟨rfl, z2⟩ := RpA.flat r h2
        exact ⟨rfl, by simp [z1, z2]⟩
theorem of_inFlat {S H : Hp} {x : V} {d : D} {xs : List V} {ds : List D} {b : Bool} (hx : RpB c.K c.cm S H x d) (r1 : RpA c.K c.cm S xs ds) (h : inFlat d ds = some b) : flatV x = true ∧ xs.all flatV = true ∧ inV x xs = b := by
  unfold inFlat at h
  split at h
  · rename_i v vs h1 h2
    obtain ⟨rfl, z1⟩ := hx.flat h1
    obtain ⟨rfl, z2⟩ := r1.flat h2
    cases h
    exact ⟨z1, z2, rfl⟩
  · cases h
end
end Dx
end S_DxC
section S_DxD
set_option Elab.async false
set_option linter.all false
set_option maxRecDepth 100000
set_option maxHeartbeats 2000000
namespace Dx
open PySem L2
section
variable {X : Cx} {c : Cf} {G : List Ow} {f f1 f2 f3 : Rho → Res D} {a b e : Expr} {es : List Expr} {pos p : Pos} {fs : Rho → Res (List D)}
def dChain (g g' : D → D → Res D) (f1 f2 f3 : Rho → Res D) : Rho → Res D := fun r => (f1 r).bind fun x => (f2 r).bind fun y => (g x y).bind fun z => (asB z).bind fun k => if k = true then (f3 r).bind fun w => g' y w else .ok (.bl false)
theorem chain_rd {r2 r2' : R2} {g g' : D → D → Res D} (hs : OpS c (mV c) r2 g) (hs' : OpS c (mV c) r2' g') : ∀ σ H Q, tV c G (dChain g g' f1 f2 f3) σ H Q → tChain r2 r2' (tR c G f1) (tR c G f2) (tR c G f3) σ H Q := fun σ H Q ⟨S0, H0, S, r, ok, p⟩ =>
  rd_seq ok p fun x v S1 H1 w1 o1 m1 p1 => rd_seq o1 p1 fun y u S2 H2 w2 o2 m2 p2 => hs σ S2 H2 v u x y _ o2.ex (RpB.mono m1 w2.s w2.h) m2 (p2.unbind.imp fun z S3 H3 w3 p3 bz hz => by
    obtain ⟨k, rfl, q3⟩ := of_asB (PostG.imp p3.unbind fun _ _ _ _ h => h)
    cases hz
    refine ⟨k, rfl, ?_⟩
    have o3 := o2.go w3
    have p4 := q3.go o3.ex
    cases k with
    | true => exact rd_seq o3 p4 fun w u' S4 H4 w4 o4 m4 p5 => hs' σ S4 H4 u u' y w Q o4.ex (RpB.mono m2 (w3.s.trans w4.s) (w3.h.trans w4.h)) m4 p5
    | false => exact p4.go o3.ex _ (.bl _))
theorem de_chain {op op' : CmpOp} {r2 r2' : R2} {g g' : D → D → Res D} {e3 : Expr} (ho : OpR X (compareOp op) r2) (hs : OpS c (mV c) r2 g) (ho' : OpR X (compareOp op') r2') (hs' : OpS c (mV c) r2' g') (ha : PE X a (tR c G f1)) (hb : PE X b (tR c G f2)) (hc : PE X e3 (tR c G f3))
    (hm : lastMarks [op, op'] [b, e3] = false := by with_unfolding_all rfl) : PE X (.Compare a [op, op'] [b, e3] pos) (tV c G (dChain g g' f1 f2 f3)) := pe_imp (pe_chain ho ho' ha hb hc hm) (chain_rd hs hs')
def negD : D → Res D
  | .int i => .ok (.int (-i))
  | _ => .bad
def dUn (g : D → Res D) (f : Rho → Res D) : Rho → Res D := fun r => (f r).bind g
theorem de_neg (ha : PE X a (tV c G f)) : PE X (.UnaryOp .USub a pos) (tV c G (dUn negD f)) := pe_imp (pe_un un_neg ha) fun σ H Q ⟨S0, H0, S, r, ok, p⟩ => rd_seq ok p fun d v S1 H1 w1 o1 m1 p1 => by
  cases d with
  | int i => cases m1; exact ⟨i, rfl, p1.go o1.ex _ (.int _)⟩
  | _ => exact p1.elim
theorem de_one {op : BoolOp} (h : PE X a (tV c G f)) : PE X (.BoolOp op [a] pos) (tV c G f) := pe_one h
theorem de_and {rest : List Expr} (ha : PE X a (tV c G f1)) (hb : PE X (.BoolOp .And (b :: rest) pos) (tV c G f2)) : PE X (.BoolOp .And (a :: b :: rest) pos) (tV c G (dAndV f1 f2)) := pe_imp (pe_and ha hb) fun σ H Q ⟨S0, H0, S, r, ok, p⟩ =>
  rd_seq ok p fun d v S1 H1 w1 o1 m1 p1 => by
    obtain ⟨k, rfl, q1⟩ := of_asB (p1.unbind)
    cases m1
    refine ⟨k, rfl, ?_⟩
    have p2 := q1.go o1.ex
    cases k with
    | true => exact ⟨S0, H0, S1, r, o1, p2⟩
    | false => exact p2.go o1.ex _ (.bl _)
theorem de_not (ha : PE X a (tV c G f)) : PE X (.UnaryOp .Not a pos) (tV c G (dNotV f)) := pe_imp (pe_not ha) fun σ H Q ⟨S0, H0, S, r, ok, p⟩ =>
  rd_seq ok p fun d v S1 H1 w1 o1 m1 p1 => by
    obtain ⟨k, rfl, q1⟩ := of_asB (p1.unbind)
    cases m1
    exact ⟨k, rfl, (q1.go o1.ex).go o1.ex _ (.bl _)⟩
def dNil : Rho → Res (List D) := fun _ => .ok []
def dCons (f : Rho → Res D) (g : Rho → Res (List D)) : Rho → Res (List D) := fun r => (f r).bind fun x => (g r).bind fun xs => .ok (x :: xs)
/-- with a mode for each: true, a thing that is only read -/
def RpM (c : Cf) (S H : Hp) : List Bool → List V → List D → Prop
  | [], [], [] => True
  | true :: ms, v :: vs, d :: ds => RpB c.K c.cm S H v d ∧ RpM c S H ms vs ds
  | false :: ms, v :: vs, d :: ds => Rp c.K c.cm S v d ∧ RpM c S H ms vs ds
  | _, _, _ => False
theorem RpM.mono {S H S' H' : Hp} (e : Ex S S') (e' : Ex H H') : ∀ {ms : List Bool} {vs : List V} {ds : List D}, RpM c S H ms vs ds → RpM c S' H' ms vs ds
  | [], [], [], _ => trivial
  | true :: ms, v :: vs, d :: ds, h => ⟨h.1.mono e e', RpM.mono e e' h.2⟩
  | false :: ms, v :: vs, d :: ds, h => ⟨h.1.mono e, RpM.mono e e' h.2⟩
  | [], _ :: _, _, h => h.elim
  | [], [], _ :: _, h => h.elim
  | true :: _, [], _, h => h.elim
  | true :: _, _ :: _, [], h => h.elim
  | false :: _, [], _, h => h.elim
  | false :: _, _ :: _, [], h => h.elim
def mM (c : Cf) (ms : List Bool) : Md (List V) (List D) := fun _ S' H' vs ds => RpM c S' H' ms vs ds
instance {ms : List Bool} : Anti (mM c ms) := ⟨fun _ h => h⟩
abbrev tM (c : Cf) (G : List Ow) (ms : List Bool) (f : Rho → Res (List D)) : TA := rd c G f (mM c ms)
theorem dm_nil : PA X [] (tM c G [] dNil) := pa_imp pa_nil fun σ H Q ⟨S0, H0, S, r, ok, p⟩ => p.go ok.ex _ trivial
theorem dm_bor {ms : List Bool} (ha : PE X e (tR c G f)) (hr : PA X es (tM c G ms fs)) (hs : starEach (e :: es) X.env = (false, eval e X.env) :: starEach es X.env := by rfl) : PA X (e :: es) (tM c G (true :: ms) (dCons f fs)) :=
  pa_imp (pa_cons ha hr hs) fun σ H Q ⟨S0, H0, S, r, ok, p⟩ => rd_seq ok p fun x v S1 H1 w1 o1 m1 p1 => rd_seq o1 p1 fun xs vs S2 H2 w2 o2 m2 p2 => p2.go o2.ex _ ⟨RpB.mono m1 w2.s w2.h, m2⟩
theorem dm_val {ms : List Bool} (ha : PE X e (tV c G f)) (hr : PA X es (tM c G ms fs)) (hs : starEach (e :: es) X.env = (false, eval e X.env) :: starEach es X.env := by rfl) : PA X (e :: es) (tM c G (false :: ms) (dCons f fs)) :=
  pa_imp (pa_cons ha hr hs) fun σ H Q ⟨S0, H0, S, r, ok, p⟩ => rd_seq ok p fun x v S1 H1 w1 o1 m1 p1 => rd_seq o1 p1 fun xs vs S2 H2 w2 o2 m2 p2 => p2.go o2.ex _ ⟨Rp.mono w2.s m1, m2⟩
theorem da_nil : PA X [] (tAs c G dNil) := pa_imp pa_nil fun σ H Q ⟨S0, H0, S, r, ok, p⟩ => p.go ok.ex _ .nil
theorem da_cons (ha : PE X e (tV c G f)) (hr : PA X es (tAs c G fs)) (hs : starEach (e :: es) X.env = (false, eval e X.env) :: starEach es X.env := by rfl) : PA X (e :: es) (tAs c G (dCons f fs)) :=
  pa_imp (pa_cons ha hr hs) fun σ H Q ⟨S0, H0, S, r, ok, p⟩ => rd_seq ok p fun x v S1 H1 w1 o1 m1 p1 => rd_seq o1 p1 fun xs vs S2 H2 w2 o2 m2 p2 => p2.go o2.ex _ (.cons (Rp.mono w2.s m1) m2)
noncomputable def mkTup (ds : List D) : Res D := guard (ds.length ≤ sizeLine) (.ok (.tup ds))
noncomputable def mkLst (ds : List D) : Res D := guard (ds.length ≤ sizeLine) (.ok (.lst ds))
noncomputable def dTup (g : Rho → Res (List D)) : Rho → Res D := fun r => (g r).bind mkTup
noncomputable def dLst (g : Rho → Res (List D)) : Rho → Res D := fun r => (g r).bind mkLst
theorem de_tup {k : Nat} (h : PA X es (tAs c G fs)) : PE X (.Tuple es k pos) (tV c G (dTup fs)) := pe_imp (pe_tup h) fun σ H Q ⟨S0, H0, S, r, ok, p⟩ => rd_seq ok p fun ds vs S1 H1 w1 o1 m1 p1 => by
  obtain ⟨hl, p1⟩ := p1.gd
  exact ⟨by rw [RpA.length m1]; exact hl, fun q hq => p1.laid o1.ex hq (.tup upd_same (RpA.mono (Ex.new (o1.ex.nn hq)) m1))⟩
theorem de_lst (h : PA X es (tAs c G fs)) : PE X (.List es pos) (tO c G (dLst fs)) := pe_imp (pe_lst h) fun σ H Q ⟨S0, H0, S, r, ok, p⟩ => rd_seq ok p fun ds vs S1 H1 w1 o1 m1 p1 => by
  obtain ⟨hl, p1⟩ := p1.gd
  exact ⟨by rw [RpA.length m1]; exact hl, fun q hq => (p1.anti w1.h).kept o1.ex hq (.lst m1)⟩
def CallS (c : Cf) (R : Md V D) (r : List V → Hp → VK → Prop) (ms : List Bool) (g : List D → Res D) : Prop := ∀ (σ : St) (S H : Hp) (vs : List V) (ds : List D) (Q : VK), Ex S H → RpM c S H ms vs ds →
  PostG c σ S H (g ds) (fun a S' H' => ∀ b, R H S' H' b a → Q b H') → r vs H Q
def dCall (g : List D → Res D) (fs : Rho → Res (List D)) : Rho → Res D := fun r => (fs r).bind g
theorem de_bltn {R : Md V D} [Anti R] {x : Str} {id : String} {ms : List Bool} {r : List V → Hp → VK → Prop} {g : List D → Res D} (hc : CallR X (.builtin id) r) (hs : CallS c R r ms g) (hg : Gl X x) (hm : X.mg x = none) (hv : bootBuiltins x = some (.builtin id)) (ha : PA X (e :: es) (tM c G ms fs))
    (hn : x ≠ "__name__" := by decide) (hdb : (x == ("__debug__" : Str)) = false := by decide) (he : starEach (e :: es) X.env = (false, eval e X.env) :: starEach es X.env := by rfl) (hpl : (backTo pos (starEach es X.env)).any (·.1) = false := by rfl) :
    PE X (.Call (.Name x p) (e :: es) [] pos) (rd c G (dCall g fs) R) := pe_imp (pe_callB hc hg hm hv ha hn hdb he hpl) fun σ H Q ⟨S0, H0, S, r, ok, p⟩ => rd_seq ok p fun ds vs S1 H1 w1 o1 m1 p1 => hs σ S1 H1 vs ds Q o1.ex m1 (p1.anti w1.h)
theorem de_type {R : Md V D} [Anti R] {x : Str} {T : String} {ms : List Bool} {r : List V → Hp → VK → Prop} {g : List D → Res D} (hc : CallR X (.type T) r) (hs : CallS c R r ms g) (hg : Gl X x) (hm : X.mg x = none) (hv : bootBuiltins x = some (.type T)) (ha : PA X (e :: es) (tM c G ms fs))
    (hn : x ≠ "__name__" := by decide) (hdb : (x == ("__debug__" : Str)) = false := by decide) (he : starEach (e :: es) X.env = (false, eval e X.env) :: starEach es X.env := by rfl) (hpl : (backTo pos (starEach es X.env)).any (·.1) = false := by rfl) :
    PE X (.Call (.Name x p) (e :: es) [] pos) (rd c G (dCall g fs) R) := pe_imp (pe_callTy hc hg hm hv ha hn hdb he hpl) fun σ H Q ⟨S0, H0, S, r, ok, p⟩ => rd_seq ok p fun ds vs S1 H1 w1 o1 m1 p1 => hs σ S1 H1 vs ds Q o1.ex m1 (p1.anti w1.h)
theorem RpM.one {S H : Hp} {vs : List V} {ds : List D} (h : RpM c S H [true] vs ds) : ∃ v d, vs = [v] ∧ ds = [d] ∧ RpB c.K c.cm S H v d := by
  match vs, ds, h with
  | [v], [d], h => exact ⟨v, d, rfl, rfl, h.1⟩
  | _ :: _ :: _, [_], h => exact h.2.elim
  | [_], _ :: _ :: _, h => exact h.2.elim
  | _ :: _ :: _, _ :: _ :: _, h => exact h.2.elim
  | [], _, h => exact h.elim
  | _ :: _, [], h => exact h.elim
theorem RpM.two {S H : Hp} {vs : List V} {ds : List D} (h : RpM c S H [true, true] vs ds) : ∃ v w d e, vs = [v, w] ∧ ds = [d, e] ∧ RpB c.K c.cm S H v d ∧ RpB c.K c.cm S H w e := by
  match vs, ds, h with
  | v :: vs, d :: ds, h =>
    obtain ⟨w, e, rfl, rfl, h2⟩ := RpM.one h.2
    exact ⟨v, w, d, e, rfl, rfl, h.1, h2⟩
  | [], _, h => exact h.elim
  | _ :: _, [], h => exact h.elim
/-- len -/
noncomputable def lenD : D → Res D
  | .str z => guard (z.length ≤ sizeLine) (.ok (.int z.length))
  | .lst ds => .ok (.int ds.length)
  | .fz ds => .ok (.int ds.length)
  | .tup ds => .ok (.int ds.length)
  | .kt ds => .ok (.int ds.length)
  | _ => .bad
def g1 (g : D → Res D) : List D → Res D
  | [d] => g d
  | _ => .bad
def g2 (g : D → D → Res D) : List D → Res D
  | [d, e] => g d e
  | _ => .bad
theorem cs_len : CallS c (mV c) (fun xs H Q => ∃ x n, xs = [x] ∧ LenV c.K x H n ∧ Q (.int n) H) [true] (g1 lenD) := by
  intro σ S H vs ds Q ex m p
  obtain ⟨v, d, rfl, rfl, h⟩ := m.one
  cases d with
  | str z =>
    obtain ⟨hl, p⟩ := p.gd
    cases h.str
    exact ⟨_, _, rfl, ⟨hl, rfl⟩, p.here ex (.int _)⟩
  | lst ds =>
    obtain ⟨q, xs, rfl, a1, r1⟩ := h.list ex
    exact ⟨_, _, rfl, .inl ⟨xs, .inl (.inl a1), r1.length.symm⟩, p.here ex (.int _)⟩
  | fz ds =>
    obtain ⟨q, xs, rfl, a1, r1⟩ := h.fz ex
    exact ⟨_, _, rfl, .inl ⟨xs, a1, r1.length.symm⟩, p.here ex (.int _)⟩
  | tup ds =>
    obtain ⟨q, xs, rfl, a1, r1, s1⟩ := h.tup ex
    exact ⟨_, _, rfl, .inr ⟨xs, a1, r1.length.symm⟩, p.here ex (.int _)⟩
  | kt ds =>
    obtain ⟨q, xs, rfl, a1, r1, s1⟩ := h.kt ex
    exact ⟨_, _, rfl, .inr ⟨xs, a1, r1.length.symm⟩, p.here ex (.int _)⟩
  | _ => exact p.elim
/-- int(..) -/
noncomputable def intD : D → Res D
  | .int i => .ok (.int i)
  | .bl k => .ok (.int (if k then 1 else 0))
  | .str a => match PySem.intText? a with
    | some n => guard (a.length ≤ 640) (.ok (.int n))
    | none => .bad
  | _ => .bad
def rIntX : List V → Hp → VK → Prop := fun xs H Q => ((∃ i, xs = [.int i] ∧ Q (.int i) H) ∨ ∃ k, xs = [.bl k] ∧ Q (.int (if k then 1 else 0)) H) ∨ ∃ a n, xs = [.str a] ∧ PySem.intText? a = some n ∧ a.length ≤ 640 ∧ Q (.int n) H
theorem cr_int : CallR X (.type "int") rIntX := call_int1.or call_int_str
theorem cs_int : CallS c (mV c) rIntX [true] (g1 intD) := by
  intro σ S H vs ds Q ex m p
  obtain ⟨v, d, rfl, rfl, h⟩ := m.one
  cases d with
  | int i => cases h.int; exact .inl (.inl ⟨_, rfl, p.here ex (.int _)⟩)
  | bl k => cases h.bl; exact .inl (.inr ⟨_, rfl, p.here ex (.int _)⟩)
  | str a =>
    cases h.str
    unfold g1 intD at p
    dsimp only at p
    split at p
    · rename_i n hn
      obtain ⟨hl, p⟩ := p.gd
      exact .inr ⟨_, n, rfl, hn, hl, p.here ex (.int _)⟩
    · exact p.elim
  | _ => exact p.elim
def absD : D → Res D
  | .int i => .ok (.int (if i < 0 then -i else i))
  | _ => .bad
theorem cs_ints2 {g : Int → Int → Int} : CallS c (mV c) (fun xs H Q => ∃ i j, xs = [.int i, .int j] ∧ Q (.int (g i j)) H) [true, true] (g2 (intsD g)) := by
  intro σ S H vs ds Q ex m p
  obtain ⟨v, w, d, e, rfl, rfl, h, h'⟩ := m.two
  unfold g2 intsD at p
  dsimp only at p
  split at p
  · cases h.int; cases h'.int; exact ⟨_, _, rfl, p.here ex (.int _)⟩
  · exact p.elim
abbrev min2 (i j : Int) : Int := if j < i then j else i
/-- list(..), tuple(..) -/
def itemsL : D → Res (List D)
  | .lst ds => .ok ds
  | .fz ds => .ok ds
  | _ => .bad
def itemsT : D → Res (List D)
  | .tup ds => .ok ds
  | _ => .bad
def items : D → Res (List D)
  | .lst ds => .ok ds
  | .fz ds => .ok ds
  | .tup ds => .ok ds
  | _ => .bad
def listD (d : D) : Res D := match d with
  | .kt ds => .ok (.lst ds)
  | d => (items d).bind fun ds => .ok (.lst ds)
theorem cs_list : CallS c (mO c) (fun xs H Q => ∃ p ys, xs = [.ref p] ∧ (SqL c.K H p ys ∨ SqT c.K H p ys) ∧ ∀ l, H l = none → Q (.ref l) (upd H l (.lst ys))) [true] (g1 listD) := by
  intro σ S H vs ds Q ex m p
  obtain ⟨v, d, rfl, rfl, h⟩ := m.one
  cases d with
  | lst ds =>
    obtain ⟨q, xs, rfl, a1, r1⟩ := h.list ex
    exact ⟨q, xs, rfl, .inl (.inl (.inl a1)), fun l hl => p.kept ex hl (.lst r1)⟩
  | fz ds =>
    obtain ⟨q, xs, rfl, a1, r1⟩ := h.fz ex
    exact ⟨q, xs, rfl, .inl a1, fun l hl => p.kept ex hl (.lst r1)⟩
  | tup ds =>
    obtain ⟨q, xs, rfl, a1, r1, s1⟩ := h.tup ex
    exact ⟨q, xs, rfl, .inr a1, fun l hl => p.kept ex hl (.lst r1)⟩
  | kt ds =>
    obtain ⟨q, xs, rfl, a1, r1, s1⟩ := h.kt ex
    exact ⟨q, xs, rfl, .inr a1, fun l hl => p.kept ex hl (.lst r1)⟩
  | _ => exact p.elim
def tupleD (d : D) : Res D := (items d).bind fun ds => .ok (.tup ds)
theorem cs_tuple : CallS c (mV c) (fun xs H Q => ∃ p ys, xs = [.ref p] ∧ ((SqL c.K H p ys ∧ ∀ l, H l = none → Q (.ref l) (upd H l (.tup ys))) ∨ (SqT c.K H p ys ∧ Q (.ref p) H))) [true] (g1 tupleD) := by
  intro σ S H vs ds Q ex m p
  obtain ⟨v, d, rfl, rfl, h⟩ := m.one
  cases d with
  | lst ds =>
    obtain ⟨q, xs, rfl, a1, r1⟩ := h.list ex
    exact ⟨q, xs, rfl, .inl ⟨.inl (.inl a1), fun l hl => p.laid ex hl (.tup upd_same (r1.mono (Ex.new (ex.nn hl))))⟩⟩
  | fz ds =>
    obtain ⟨q, xs, rfl, a1, r1⟩ := h.fz ex
    exact ⟨q, xs, rfl, .inl ⟨a1, fun l hl => p.laid ex hl (.tup upd_same (r1.mono (Ex.new (ex.nn hl))))⟩⟩
  | tup ds =>
    obtain ⟨q, xs, rfl, a1, r1, s1⟩ := h.tup ex
    exact ⟨q, xs, rfl, .inr ⟨a1, p.here ex (.tup s1 r1)⟩⟩
  | _ => exact p.elim
/-- str(n), str(text) is not here: see part T -/
noncomputable def strD : D → Res D
  | .int i => guard (i.natAbs.log2 < 1920) (.ok (.str (toString i)))
  | _ => .bad
def tyN : D → Option String
  | .non => some "NoneType"
  | .bl _ => some "bool"
  | .int _ => some "int"
  | .str _ => some "str"
  | .lst _ => some "list"
  | .fz _ => some "list"
  | .tup _ => some "tuple"
  | .kt _ => some "tuple"
  | .dk _ _ => some "dict"
  | .dt _ _ => none
  | .obj _ _ _ => none
  | .own _ => none
  | .st _ _ => none
def isiD (T : String) (d : D) : Res D := match tyN d with
  | some n => match kitB n T with
    | some b => .ok (.bl b)
    | none => .bad
  | none => .bad
theorem RpB.ty {K : PySem.W.Frag} {cm : CM} {S H : Hp} {v : V} {d : D} {n : String} (h : RpB K cm S H v d) (ex : Ex S H) (q : tyN d = some n) : TyX K H v (.type n) := by
  cases d with
  | non => cases h.non; cases q; exact .base .non
  | bl b => cases h.bl; cases q; exact .base (.bl b)
  | int i => cases h.int; cases q; exact .base (.int i)
  | str s => cases h.str; cases q; exact .base (.str s)
  | lst ds => obtain ⟨p, xs, rfl, a, r⟩ := h.list ex; cases q; exact .base (.lst a)
  | fz ds =>
    obtain ⟨p, xs, rfl, a, r⟩ := h.fz ex; cases q
    rcases a with (a | ⟨o, a⟩) | ⟨o, its, m, a1, a2, _⟩
    · exact .base (.lst a)
    · exact .base (.frz a)
    · exact .kList a1 a2
  | tup ds =>
    obtain ⟨p, xs, rfl, a, r, s⟩ := h.tup ex; cases q
    rcases a with (a | ⟨o, a⟩) | ⟨o, its, m, a1, a2, _⟩
    · exact .base (.tup a)
    · exact .fTuple a
    · exact .kTuple a1 a2
  | dk ks vs =>
    obtain ⟨p, xs, rfl, a, r⟩ := h.dk ex; cases q
    rcases a with a | ⟨o, a⟩
    · exact .base (.dK a)
    · exact .fDict a
  | dt ks vs => cases q
  | kt ds =>
    obtain ⟨p, xs, rfl, a, r, s⟩ := h.kt ex; cases q
    rcases a with (a | ⟨o, a⟩) | ⟨o, its, m, a1, a2, _⟩
    · exact .base (.tup a)
    · exact .fTuple a
    · exact .kTuple a1 a2
  | obj n ns vs => cases q
  | own k => cases q
  | st k M => cases q
/-- the class's name is a built-in's that stands as it was -/
theorem de_isi {x : Str} {pT : Pos} (T : String) (hm : X.mg "isinstance" = none) (hg : Gl X "isinstance") (gT : Gl X x) (mT : X.mg x = none) (bT : bootBuiltins x = some (.type T)) (ha : PE X e (tR c G f)) (hK : c.K = X.K := by rfl)
    (hn : x ≠ "__name__" := by decide) (hd : (x == ("__debug__" : Str)) = false := by decide)
    (hs1 : starEach [e, .Name x pT] X.env = (false, eval e X.env) :: starEach [.Name x pT] X.env := by rfl) (hs2 : starEach [.Name x pT] X.env = (false, eval (.Name x pT) X.env) :: starEach [] X.env := by rfl) (hpl : (backTo pos (starEach [.Name x pT] X.env)).any (·.1) = false := by rfl) :
    PE X (.Call (.Name "isinstance" p) [e, .Name x pT] [] pos) (tV c G (dUn (isiD T) f)) := by
  have hT : PE X (.Name x pT) (tC (.ty T)) := pe_bltn gT mT bT rfl hn hd
  refine pe_imp (pe_callB call_isi hg hm (by decide +kernel) (pa_cons ha (pa_cons hT pa_nil hs2) hs1) (he := hs1) (hpl := hpl)) fun σ H Q ⟨S0, H0, S, r, ok, p⟩ => rd_seq ok p fun d v S1 H1 w1 o1 m1 p1 => ?_
  unfold isiD at p1
  split at p1
  · rename_i n hn
    split at p1
    · rename_i b hb
      exact ⟨v, .ty T, .type n, .type T, b, rfl, .ty T, by rw [← hK]; exact RpB.ty m1 o1.ex hn, kit_ty hb, p1.go o1.ex _ (.bl _)⟩
    · exact p1.elim
  · exact p1.elim
noncomputable def ixD : D → D → Res D
  | .lst ds, .int i => match atI ds i with
    | some d => .ok d
    | none => .bad
  | .fz ds, .int i => match atI ds i with
    | some d => .ok d
    | none => .bad
  | .tup ds, .int i => match atI ds i with
    | some d => .ok d
    | none => .bad
  | .kt ds, .int i => match atI ds i with
    | some d => .ok d
    | none => .bad
  | .str z, .int i => guard (z.length ≤ sizeLine) (match atI z.cps.toList i with
    | some n => .ok (.str ⟨#[n]⟩)
    | none => .bad)
  | _, _ => .bad
theorem RpA.atI {K : PySem.W.Frag} {cm : CM} {S : Hp} {xs : List V} {ds : List D} {i : Int} {d : D} (h : RpA K cm S xs ds) (q : atI ds i = some d) : ∃ v, L2.atI xs i = some v ∧ Rp K cm S v d := by
  unfold L2.atI at q ⊢
  rw [h.length]
  cases hj : ixN ds.length i with
  | none => rw [hj] at q; cases q
  | some j => rw [hj] at q; exact h.get q
theorem os_ix : OpS c (mV c) (rIx c.K) ixD := by
  intro σ S H x y d e Q ex hx hy p
  unfold ixD at p
  split at p
  · split at p
    · rename_i hd
      obtain ⟨q, xs, rfl, a1, r1⟩ := hx.list ex
      cases hy.int
      obtain ⟨v, h1, h2⟩ := r1.atI hd
      exact .inl ⟨q, xs, _, v, rfl, rfl, .inl (.inl a1), h1, p.here ex h2⟩
    · exact p.elim
  · split at p
    · rename_i hd
      obtain ⟨q, xs, rfl, a1, r1⟩ := hx.fz ex
      cases hy.int
      obtain ⟨v, h1, h2⟩ := r1.atI hd
      exact .inl ⟨q, xs, _, v, rfl, rfl, a1, h1, p.here ex h2⟩
    · exact p.elim
  · split at p
    · rename_i hd
      obtain ⟨q, xs, rfl, a1, r1, s1⟩ := hx.tup ex
      cases hy.int
      obtain ⟨v, h1, h2⟩ := r1.atI hd
      exact .inr (.inl ⟨q, xs, _, v, rfl, rfl, a1, h1, p.here ex h2⟩)
    · exact p.elim
  · split at p
    · rename_i hd
      obtain ⟨q, xs, rfl, a1, r1, s1⟩ := hx.kt ex
      cases hy.int
      obtain ⟨v, h1, h2⟩ := r1.atI hd
      exact .inr (.inl ⟨q, xs, _, v, rfl, rfl, a1, h1, p.here ex h2⟩)
    · exact p.elim
  · obtain ⟨hl, p⟩ := p.gd
    cases hx.str; cases hy.int
    split at p
    · rename_i hd
      exact .inr (.inr ⟨_, _, _, rfl, rfl, hl, hd, p.here ex (.str _)⟩)
    · exact p.elim
  · exact p.elim
theorem de_ix (ha : PE X a (tR c G f1)) (hb : PE X b (tR c G f2)) (hs : PlainIx b) (hK : c.K = X.K := by rfl) : PE X (.Subscript a b pos) (tV c G (dOp ixD f1 f2)) :=
  pe_imp (pe_ix ix_seq ha hb hs) (by rw [← hK]; exact op_rd os_ix)
def cutL {α : Type} (xs : List α) (lo hi : Option Int) : List α := (xs.drop (HT.sIx xs.length 0 lo)).take (HT.sIx xs.length xs.length hi - HT.sIx xs.length 0 lo)
def asI : D → Res Int
  | .int i => .ok i
  | _ => .bad
def dNoP : Rho → Res (Option Int) := fun _ => .ok none
def dPart (f : Rho → Res D) : Rho → Res (Option Int) := fun r => (f r).bind fun d => (asI d).bind fun i => .ok (some i)
variable {fl fh : Rho → Res (Option Int)} {lo hi : Option Expr} {p2 : Pos}
noncomputable def slD (d : D) (lo hi : Option Int) : Res D := match d with
  | .lst ds => .ok (.lst (cutL ds lo hi))
  | .fz ds => .ok (.lst (cutL ds lo hi))
  | .tup ds => .ok (.tup (cutL ds lo hi))
  | .str z => guard (z.length ≤ sizeLine) (.ok (.str (cutS z lo hi)))
  | _ => .bad
def dSl (g : D → Option Int → Option Int → Res D) (f : Rho → Res D) (fl fh : Rho → Res (Option Int)) : Rho → Res D := fun r => (f r).bind fun d => (fl r).bind fun l => (fh r).bind fun h => g d l h
/-- a slice of a list, the new list one's own -/
def slL (d : D) (lo hi : Option Int) : Res D := match d with
  | .lst ds => .ok (.lst (cutL ds lo hi))
  | .fz ds => .ok (.lst (cutL ds lo hi))
  | _ => .bad
end
end Dx
end S_DxD
section S_DxE
set_option Elab.async false
set_option linter.all false
set_option maxRecDepth 100000
set_option maxHeartbeats 2000000
namespace Dx
open PySem L2
/-- what is wanted behind a statement -/
def PostS (c : Cf) (S0 H0 : Hp) (L G' : List Ow) (o : SR) (E : Ends) : Prop :=
  match o with
  | .nx r => ∀ σ' S' H', EnvOk c S0 H0 G' S' H' σ' r → E.nx σ' H'
  | .rt d => if c.rm then ∀ p ho S' H', Fwd S0 H0 S' H' → H0 p = none → S' p = none → H' p = some ho → RpO c.K c.cm S' ho d → E.rt (.ref p) H'
      else ∀ v S' H', Fwd S0 H0 S' H' → Rp c.K c.cm S' v d → E.rt v H'
  | .bk r => ∀ σ' S' H', EnvOk c S0 H0 L S' H' σ' r → E.bk σ' H'
  | .ct r => ∀ σ' S' H', EnvOk c S0 H0 L S' H' σ' r → E.ct σ' H'
  | .er r n ns vs => ∀ C dd σ' S' H' fs, c.cm n = some C → Fwd S0 H0 S' H' → (∀ g, c.ge = some g → EnvOk c S0 H0 g S' H' σ' r) → S' dd = some (.xd fs) → ns = fs.map (·.1) → RpA c.K c.cm S' (fs.map (·.2)) vs → c.W (.ref C) (some dd) σ' H'
  | .bad => False
def sD (c : Cf) (L G G' : List Ow) (F : Rho → SR) : TS := fun E σ H => ∃ S0 H0 S r, EnvOk c S0 H0 G S H σ r ∧ PostS c S0 H0 L G' (F r) E
def liftS {α : Type} (r : Rho) (x : Res α) (k : α → SR) : SR := match x with
  | .ok a => k a
  | .err n ns vs => .er r n ns vs
  | .bad => .bad
/-- where a try's clauses ask for the slots, the kinds are the ones told -/
def Gok (c : Cf) (G : List Ow) : Prop := ∀ g, c.ge = some g → g = G
section
variable {X : Cx} {c : Cf} {L G G' G'' : List Ow} {σ : St} {S0 H0 S H : Hp} {r : Rho} {α β : Type} {E : Ends}
theorem st_seq {f : Rho → Res α} {R : Md β α} (hg : Gok c G) (e : EnvOk c S0 H0 G S H σ r) {k : α → SR} (p : PostS c S0 H0 L G' (liftS r (f r) k) E) {Q : β → Hp → Prop}
    (h : ∀ a b S' H', Fwd S H S' H' → EnvOk c S0 H0 G S' H' σ r → R H S' H' b a → PostS c S0 H0 L G' (k a) E → Q b H') : rd c G f R σ H Q := by
  refine ⟨S0, H0, S, r, e, ?_⟩
  cases hf : f r with
  | ok a => rw [hf] at p; exact fun S' H' fw b hb => h a b S' H' fw (e.go fw) hb p
  | err n ns vs =>
    rw [hf] at p
    exact fun C dd S' H' fs h1 fw h2 h3 h4 => p C dd σ S' H' fs h1 (e.fwd.trans fw) (fun g q => by rw [hg g q]; exact e.go fw) h2 h3 h4
  | bad => rw [hf] at p; exact p.elim
/-- the stable part as the new base -/
theorem EnvOk.rebase (e : EnvOk c S0 H0 G S H σ r) : EnvOk c S H0 G S H σ r := ⟨⟨Ex.refl, e.fwd.h, e.fwd.sub, fun a o h n => by rw [n] at h; cases h⟩, e.len, e.slot, e.sep, e.sto⟩
theorem Fwd.unbase {S' H' : Hp} (f : Fwd S0 H0 S H) (g : Fwd S H0 S' H') : Fwd S0 H0 S' H' := ⟨f.s.trans g.s, g.h, g.sub, fun a o h n => by
  cases q : S a with
  | some u => exact f.new a u q n
  | none => exact g.new a o h q⟩
theorem EnvOk.unbase {S' H' : Hp} {σ' : St} {r' : Rho} (f : Fwd S0 H0 S H) (e : EnvOk c S H0 G' S' H' σ' r') : EnvOk c S0 H0 G' S' H' σ' r' := ⟨f.unbase e.fwd, e.len, e.slot, e.sep, e.sto⟩
theorem PostS.rebase {o : SR} (f : Fwd S0 H0 S H) (p : PostS c S0 H0 L G' o E) : PostS c S H0 L G' o E := by
  cases o with
  | nx r => exact fun σ' S' H' e => p σ' S' H' (e.unbase f)
  | rt d =>
    unfold PostS at p ⊢
    dsimp only at p ⊢
    split
    · rename_i h
      rw [if_pos h] at p
      exact fun q ho S' H' w => p q ho S' H' (f.unbase w)
    · rename_i h
      rw [if_neg h] at p
      exact fun v S' H' w => p v S' H' (f.unbase w)
  | bk r => exact fun σ' S' H' e => p σ' S' H' (e.unbase f)
  | ct r => exact fun σ' S' H' e => p σ' S' H' (e.unbase f)
  | er r n ns vs => exact fun C dd σ' S' H' fs h1 w h2 => p C dd σ' S' H' fs h1 (f.unbase w) fun g q => (h2 g q).unbase f
  | bad => exact p
def seqF (F K : Rho → SR) : Rho → SR := fun r => match F r with
  | .nx r' => K r'
  | o => o
theorem ds_nil : PSs X [] (sD c L G G .nx) := pss_imp pss_nil fun E σ H ⟨S0, H0, S, r, ok, p⟩ => p σ S H ok
theorem ds_cons {st : Stmt} {rest : List Stmt} {F K : Rho → SR} (h1 : PS X st (sD c L G G' F)) (h2 : PSs X rest (sD c L G' G'' K)) : PSs X (st :: rest) (sD c L G G'' (seqF F K)) := pss_imp (pss_cons h1 h2) fun E σ H ⟨S0, H0, S, r, ok, p⟩ => by
  refine ⟨S0, H0, S, r, ok, ?_⟩
  unfold seqF at p
  cases hF : F r with
  | nx r' => rw [hF] at p; exact fun σ' S' H' e => ⟨S0, H0, S', r', e, p⟩
  | rt d => rw [hF] at p; exact p
  | bk r' => rw [hF] at p; exact p
  | ct r' => rw [hF] at p; exact p
  | er r' n ns vs => rw [hF] at p; exact p
  | bad => rw [hF] at p; exact p.elim
theorem ds_one {st : Stmt} {F : Rho → SR} (h1 : PS X st (sD c L G G' F)) : PSs X [st] (sD c L G G' F) := pss_one h1
/-- an own object becomes a value, ahead of a block; behind one -/
theorem EnvOk.pubL (e : EnvOk c S0 H0 G S H σ r) (i : Nat) (hk : kd G i = .o ∨ kd G i = .v) : Lo (fun H => ∃ S', EnvOk c S0 H0 (G.set i .v) S' H σ r) H := by
  by_cases h : kd G i = .o ∧ ∃ d, r[i]? = some (some d) ∧ isDct d = true
  · obtain ⟨k, d, h1, h2⟩ := h
    exact .inr (e.pubD i k h1 h2)
  · by_cases k : kd G i = .o
    · exact .inl (e.pub i hk fun d hd => by
        cases q : isDct d with
        | false => rfl
        | true => exact (h ⟨k, d, hd, q⟩).elim)
    · have k' : kd G i = .v := hk.resolve_left k
      have all : ∀ j, kd (G.set i .v) j = kd G j := fun j => by
        by_cases ne : i = j
        · subst ne; rw [kd_set_self, k']
        · exact kd_set_ne ne
      exact .inl ⟨S, e.fwd, e.len, fun j b hb => by rw [all]; exact e.slot j b hb, fun j l b b' q hj hk kj kk sj sk => e.sep j l b b' q hj hk ((all j) ▸ kj) ((all l) ▸ kk) sj sk, e.sto_un i hk⟩
theorem Lo.imp {Q R : Hp → Prop} {H : Hp} (h : Lo Q H) (k : ∀ H, Q H → R H) : Lo R H := by
  rcases h with h | ⟨p, u, h1, h2, h⟩
  · exact .inl (k _ h)
  · exact .inr ⟨p, u, h1, h2, fun w => k _ (h w)⟩
theorem ds_pub {sts : List Stmt} {F : Rho → SR} (i : Nat) (h : PSs X sts (sD c L (G.set i .v) G' F)) (hk : kd G i = .o ∨ kd G i = .v) : PSs X sts (sD c L G G' F) := pss_lock h fun E σ H ⟨S0, H0, S, r, ok, p⟩ =>
  (ok.pubL i hk).imp fun H' ⟨S', ok'⟩ => ⟨S0, H0, S', r, ok', p⟩
variable {e : Expr} {pos : Pos} {f : Rho → Res D}
def setF (i : Nat) (f : Rho → Res D) : Rho → SR := fun r => liftS r (f r) fun d => .nx (r.set i (some d))
/-- x = e -/
theorem ds_set (i : Nat) {x : Str} {pos' : Pos} (hg : Gok c G) (hN : X.N.Nodup) (hi : X.N[i]? = some x) (hx : Loc X.env.scope x) (he : PE X e (tV c G f)) (hs : swapsWith e (some (.Name x pos')) pos.line X.env = pure false := by rfl)
    (hf : X.fn x = true ∨ X.env.scope.names.lookup x = some .local := by first | exact .inl rfl | exact .inr rfl | assumption) : PS X (.Assign [.Name x pos'] e pos) (sD c L G (G.set i .v) (setF i f)) :=
  ps_imp (ps_set hN hi hx he hs hf) fun E σ H ⟨S0, H0, S, r, ok, p⟩ => st_seq hg ok p fun d v S1 H1 w1 o1 m1 p1 => p1 _ S1 H1 (o1.setV i m1)
/-- x = e, a new object of one's own -/
theorem ds_setO (i : Nat) {x : Str} {pos' : Pos} (hg : Gok c G) (hG : i < G.length) (hN : X.N.Nodup) (hi : X.N[i]? = some x) (hx : Loc X.env.scope x) (he : PE X e (tO c G f)) (hs : swapsWith e (some (.Name x pos')) pos.line X.env = pure false := by rfl)
    (hf : X.fn x = true ∨ X.env.scope.names.lookup x = some .local := by first | exact .inl rfl | exact .inr rfl | assumption) : PS X (.Assign [.Name x pos'] e pos) (sD c L G (G.set i .o) (setF i f)) :=
  ps_imp (ps_set hN hi hx he hs hf) fun E σ H ⟨S0, H0, S, r, ok, p⟩ => st_seq hg ok p fun d v S1 H1 w1 o1 m1 p1 => by
    obtain ⟨q, ho, rfl, n, ns, hp, h⟩ := m1
    exact p1 _ S1 H1 (ok.setO w1 i hG n ns hp h)
def retF (f : Rho → Res D) : Rho → SR := fun r => liftS r (f r) .rt
theorem ds_ret (hg : Gok c G) (hr : c.rm = false) (he : PE X e (tV c G f)) : PS X (.Return (some e) pos) (sD c L G G' (retF f)) := ps_imp (ps_ret he) fun E σ H ⟨S0, H0, S, r, ok, p⟩ => st_seq hg ok p fun d v S1 H1 w1 o1 m1 p1 => by
  unfold PostS at p1
  rw [hr] at p1
  exact p1 v S1 H1 o1.fwd m1
theorem ds_retO (hg : Gok c G) (hr : c.rm = true) (he : PE X e (tO c G f)) : PS X (.Return (some e) pos) (sD c L G G' (retF f)) := ps_imp (ps_ret he) fun E σ H ⟨S0, H0, S, r, ok, p⟩ => st_seq hg ok p fun d v S1 H1 w1 o1 m1 p1 => by
  unfold PostS at p1
  rw [hr] at p1
  obtain ⟨q, ho, rfl, n, ns, hp, h⟩ := m1
  exact p1 q ho S1 H1 o1.fwd (ok.fwd.h.nn n) ns hp h
def dropF {α : Type} (f : Rho → Res α) : Rho → SR := fun r => liftS r (f r) fun _ => .nx r
theorem ds_expr {R : Md V D} (hg : Gok c G) (he : PE X e (rd c G f R)) (hs : swapsWith e none pos.line X.env = pure false := by rfl) : PS X (.Expr e pos) (sD c L G G (dropF f)) := ps_imp (ps_expr he hs) fun E σ H ⟨S0, H0, S, r, ok, p⟩ =>
  st_seq hg ok p fun d v S1 H1 w1 o1 m1 p1 => p1 σ S1 H1 o1
def ifF (t : Rho → Res Bool) (F K : Rho → SR) : Rho → SR := fun r => liftS r (t r) fun b => if b = true then F r else K r
theorem ds_if {cnd : Expr} {sa sb : List Stmt} {t : Rho → Res Bool} {F K : Rho → SR} (hg : Gok c G) (hc : PT X cnd (tT c G t)) (ha : PSs X sa (sD c L G G' F)) (hb : PSs X sb (sD c L G G' K)) : PS X (.If cnd sa sb pos) (sD c L G G' (ifF t F K)) :=
  ps_imp (ps_if hc ha hb) fun E σ H ⟨S0, H0, S, r, ok, p⟩ => st_seq hg ok p fun x v S1 H1 w1 o1 m1 p1 => by
    rw [show v = x from m1]
    cases x with
    | true => exact ⟨S0, H0, S1, r, o1, p1⟩
    | false => exact ⟨S0, H0, S1, r, o1, p1⟩
variable {a b : Expr} {f1 f2 : Rho → Res D} {apos cpos p' : Pos}
/-- the own list in slot i -/
def ownL (i : Nat) (r : Rho) : Res (List D) := match r[i]? with
  | some (some (.lst ds)) => .ok ds
  | _ => .bad
theorem of_ownL {i : Nat} {k : List D → SR} (e : EnvOk c S0 H0 G S H σ r) (kd' : kd G i = .o) (p : PostS c S0 H0 L G' (liftS r (ownL i r) k) E) :
    ∃ q xs ds, r[i]? = some (some (.lst ds)) ∧ σ[i]? = some (some (.ref q)) ∧ H q = some (.lst xs) ∧ RpA c.K c.cm S xs ds ∧ PostS c S0 H0 L G' (k ds) E := by
  unfold ownL at p
  split at p
  · rename_i ds hd
    obtain ⟨q, ho, s1, s2, s3, s4, s5⟩ := e.own kd' hd
    cases s5 with
    | lst r1 => exact ⟨q, _, ds, hd, s1, s2, r1, p⟩
  · exact p.elim
noncomputable def guardS (p : Prop) (x : SR) : SR := @ite _ p (Classical.propDecidable p) x .bad
theorem guardS_pos {p : Prop} {x : SR} (h : p) : guardS p x = x := by unfold guardS; exact if_pos h
noncomputable def appF (i : Nat) (f : Rho → Res D) : Rho → SR := fun r => liftS r (ownL i r) fun ds => liftS r (f r) fun d => guardS (ds.length < sizeLine) (.nx (r.set i (some (.lst (ds ++ [d])))))
theorem PostS.ite {p : Prop} [Decidable p] {x : SR} (h : PostS c S0 H0 L G' (if p then x else .bad) E) : p ∧ PostS c S0 H0 L G' x E := by
  by_cases hp : p
  · rw [if_pos hp] at h; exact ⟨hp, h⟩
  · rw [if_neg hp] at h; exact h.elim
theorem PostS.gd {p : Prop} {x : SR} (h : PostS c S0 H0 L G' (guardS p x) E) : p ∧ PostS c S0 H0 L G' x E := by
  by_cases hp : p
  · rw [guardS_pos hp] at h; exact ⟨hp, h⟩
  · unfold guardS at h; rw [if_neg hp] at h; exact h.elim
theorem pe_app {o : Expr} {to te : TE} (ho : PE X o to) (he : PE X e te) (hbase : attributeBase o "append" X.env (eval o X.env) = eval o X.env := by rfl)
    (hfew : ((backTo cpos (starEach [e] X.env)).all (fun x => !x.1) && (backToKw cpos (keywordEach [] X.env)).all (fun x => x.1.isSome) && decide ([e].length + ([] : List Keyword).length + (if ([] : List Keyword).isEmpty then 0 else 1) < 30)) = true := by rfl)
    (hline : (apos.endLine == cpos.line) = true := by rfl) (hs : starEach [e] X.env = (false, eval e X.env) :: starEach [] X.env := by rfl) :
    PE X (.Call (.Attribute o "append" apos) [e] [] cpos) (tBM X.K "list" rAppend to (tCons te tNil)) :=
  pe_bm PySem.F.plainAttrs_list PySem.F.slot_list_append PySem.F.type_list_append mt_append ho (pa_cons he pa_nil hs) hbase hfew hline hs rfl
theorem ds_app (i : Nat) {x : Str} {pn : Pos} (hg : Gok c G) (k : kd G i = .o) (ho : PE X (.Name x pn) (tVar i)) (he : PE X e (tV c G f)) (hw : swapsWith (.Call (.Attribute (.Name x pn) "append" apos) [e] [] cpos) none pos.line X.env = pure false := by rfl)
    (hbase : attributeBase (.Name x pn) "append" X.env (eval (.Name x pn) X.env) = eval (.Name x pn) X.env := by rfl)
    (hfew : ((backTo cpos (starEach [e] X.env)).all (fun x => !x.1) && (backToKw cpos (keywordEach [] X.env)).all (fun x => x.1.isSome) && decide ([e].length + ([] : List Keyword).length + (if ([] : List Keyword).isEmpty then 0 else 1) < 30)) = true := by rfl)
    (hline : (apos.endLine == cpos.line) = true := by rfl) (hs : starEach [e] X.env = (false, eval e X.env) :: starEach [] X.env := by rfl) :
    PS X (.Expr (.Call (.Attribute (.Name x pn) "append" apos) [e] [] cpos) pos) (sD c L G G (appF i f)) :=
  ps_imp (ps_expr (pe_app ho he hbase hfew hline hs) hw) fun E σ H ⟨S0, H0, S, r, ok, p⟩ => by
    obtain ⟨q, xs, ds, hd, z1, z2, z3, p1⟩ := of_ownL ok k p
    refine ⟨.ref q, z1, .inl ⟨rfl, xs, .inl (.inl z2)⟩, st_seq hg ok p1 fun d v S1 H1 w1 o1 m1 p2 => ?_⟩
    obtain ⟨hl, p2⟩ := p2.gd
    exact ⟨q, xs, v, rfl, rfl, w1.h _ _ z2, by rw [z3.length]; exact hl, p2 σ S1 _ (o1.mut k hd z1 (.lst ((z3.mono w1.s).app (.one m1))))⟩
/-- x[i] = e, x an own list -/
def stoF (i : Nat) (fi f : Rho → Res D) : Rho → SR := fun r => liftS r (f r) fun d => liftS r (ownL i r) fun ds => liftS r (fi r) fun k => liftS r (asI k) fun k => match ixN ds.length k with
  | some j => .nx (r.set i (some (.lst (ds.set j d))))
  | none => .bad
theorem ds_sto (i : Nat) {x : Str} {pn : Pos} {ix : Expr} {fi : Rho → Res D} (hg : Gok c G) (k : kd G i = .o) (ho : PE X (.Name x pn) (tVar i)) (hi : PE X ix (tV c G fi)) (he : PE X e (tV c G f))
    (ha : ∀ v, assign (.Subscript (.Name x pn) ix p') X.env v = (do
      let ov ← holding [v] (eval (.Name x pn) X.env)
      let iv ← holding [v, ov] (eval ix X.env)
      standAt p'
      holding [v, ov, iv] (setItem ov iv v)
      release [v, ov, iv] []) := by intro _; rfl)
    (hs : swapsWithSole [.Subscript (.Name x pn) ix p'] e pos.line X.env = pure false := by rfl) (hw : swappedStores [.Subscript (.Name x pn) ix p'] e X.env = pure none := by rfl)
    (h1 : (assignEach [.Subscript (.Name x pn) ix p'] X.env).map (·.2) = [assign (.Subscript (.Name x pn) ix p') X.env] := by rfl) :
    PS X (.Assign [.Subscript (.Name x pn) ix p'] e pos) (sD c L G G (stoF i fi f)) :=
  ps_imp (ps_asg he (pg_sub ho hi set_list ha) hs hw h1) fun E σ H ⟨S0, H0, S, r, ok, p⟩ => st_seq hg ok p fun d v S1 H1 w1 o1 m1 p1 => by
    obtain ⟨q, xs, ds, hd, z1, z2, z3, p2⟩ := of_ownL o1 k p1
    refine ⟨.ref q, z1, st_seq hg o1 p2 fun kk u S2 H2 w2 o2 m2 p3 => ?_⟩
    cases kk with
    | int j =>
      cases m2
      dsimp only [asI, liftS] at p3
      split at p3
      · rename_i n hn
        refine ⟨q, xs, j, n, rfl, rfl, w2.h _ _ z2, by rw [z3.length]; exact hn, p3 σ S2 _ (o2.mut k hd z1 (.lst (RpA.set (Rp.mono w2.s m1) n (z3.mono w2.s))))⟩
      · exact p3.elim
    | _ => exact p3.elim
/-- what is wanted behind a target -/
def PostR (c : Cf) (S0 H0 S H : Hp) (G' : List Ow) (σ : St) (ks : List Nat) (x : Res Rho) (Q : St → Hp → Prop) : Prop := match x with
  | .ok r' => ∀ σ', wipe σ' ks = wipe σ ks → EnvOk c S0 H0 G' S H σ' r' → Q σ' H
  | _ => False
theorem wipe_get (σ : St) : ∀ (vs : List Nat) (i : Nat), (wipe σ vs)[i]? = if i ∈ vs then σ[i]?.map (fun _ => none) else σ[i]?
  | [], i => by simp [wipe]
  | v :: vs, i => by
    show ((wipe σ vs).set v none)[i]? = _
    by_cases h : v = i
    · subst h
      rw [List.getElem?_set, if_pos rfl, wipe_length, if_pos (List.mem_cons_self)]
      split
      · rename_i hl; simp [List.getElem?_eq_getElem hl]
      · rename_i hl; rw [List.getElem?_eq_none (by omega)]; rfl
    · rw [List.getElem?_set_ne h, wipe_get σ vs i]
      have : (i ∈ v :: vs) ↔ i ∈ vs := by simp [List.mem_cons, Ne.symm h]
      simp only [this]
theorem wipe_set {σ : St} {i : Nat} {x : Option V} : wipe (σ.set i x) [i] = wipe σ [i] := by
  show (σ.set i x).set i none = σ.set i none
  exact List.set_set _
theorem wipe_len {σ σ' : St} {ks : List Nat} (h : wipe σ' ks = wipe σ ks) : σ'.length = σ.length := by
  have := congrArg List.length h
  rw [wipe_length, wipe_length] at this
  exact this
theorem wipe_get_eq {σ σ' : St} {ks : List Nat} (h : wipe σ' ks = wipe σ ks) {i : Nat} (hi : i ∉ ks) : σ'[i]? = σ[i]? := by
  have := congrArg (fun l : St => l[i]?) h
  simp only [wipe_get, if_neg hi] at this
  exact this
theorem wipe_app {σ σ1 σ2 : St} {k1 k2 : List Nat} (h1 : wipe σ1 k1 = wipe σ k1) (h2 : wipe σ2 k2 = wipe σ1 k2) : wipe σ2 (k1 ++ k2) = wipe σ (k1 ++ k2) := by
  have l1 := wipe_len h1
  have l2 := wipe_len h2
  apply List.ext_getElem?
  intro i
  rw [wipe_get, wipe_get]
  by_cases hi : i ∈ k1 ++ k2
  · rw [if_pos hi, if_pos hi]
    by_cases hl : i < σ.length
    · rw [List.getElem?_eq_getElem hl, List.getElem?_eq_getElem (show i < σ2.length by omega)]; rfl
    · rw [List.getElem?_eq_none (by omega), List.getElem?_eq_none (by omega)]
  · rw [if_neg hi, if_neg hi]
    have a1 : i ∉ k1 := fun z => hi (List.mem_append_left _ z)
    have a2 : i ∉ k2 := fun z => hi (List.mem_append_right _ z)
    rw [wipe_get_eq h2 a2, wipe_get_eq h1 a1]
/-- a target by data -/
def gD (c : Cf) (G G' : List Ow) (ks : List Nat) (t : D → Rho → Res Rho) : TG := fun v σ H Q => ∃ S0 H0 S r d, EnvOk c S0 H0 G S H σ r ∧ Rp c.K c.cm S v d ∧ PostR c S0 H0 S H G' σ ks (t d r) Q
theorem pg_imp {tg : Expr} {t t' : TG} (h : PG X tg t) (k : ∀ v σ H Q, t' v σ H Q → t v σ H Q) : PG X tg t' := ⟨fun pins s σ H v u Q I r q => h.run pins s σ H v u Q I r (k v σ H Q q)⟩
theorem pgs_imp {tg : List Expr} {t t' : TGs} (h : PGs X tg t) (k : ∀ v σ H Q, t' v σ H Q → t v σ H Q) : PGs X tg t' := ⟨fun pins s σ H v u Q I r q => h.run pins s σ H v u Q I r (k v σ H Q q)⟩
def tgN (i : Nat) : D → Rho → Res Rho := fun d r => .ok (r.set i (some d))
theorem dg_name (i : Nat) {x : Str} (hN : X.N.Nodup) (hi : X.N[i]? = some x) (hx : Loc X.env.scope x) (hf : X.fn x = true ∨ X.env.scope.names.lookup x = some .local := by first | exact .inl rfl | exact .inr rfl | assumption) :
    PG X (.Name x pos) (gD c G (G.set i .v) [i] (tgN i)) := pg_imp (pg_name hN hi hx hf) fun v σ H Q ⟨S0, H0, S, r, d, ok, hv, p⟩ => p _ wipe_set (ok.setV i hv)
def gDs (c : Cf) (G G' : List Ow) (ks : List Nat) (t : List D → Rho → Res Rho) : TGs := fun vs σ H Q => ∃ S0 H0 S r ds, EnvOk c S0 H0 G S H σ r ∧ RpA c.K c.cm S vs ds ∧ PostR c S0 H0 S H G' σ ks (t ds r) Q
def tgNil : List D → Rho → Res Rho
  | [], r => .ok r
  | _ :: _, _ => .bad
def tgCons (t : D → Rho → Res Rho) (u : List D → Rho → Res Rho) : List D → Rho → Res Rho
  | [], _ => .bad
  | d :: ds, r => (t d r).bind (u ds)
theorem dg_nil : PGs X [] (gDs c G G [] tgNil) := pgs_imp pgs_nil fun vs σ H Q ⟨S0, H0, S, r, ds, ok, hv, p⟩ => by
  cases hv with
  | nil => exact ⟨rfl, p σ rfl ok⟩
  | cons _ _ => exact p.elim
theorem dg_cons {es : List Expr} {t : D → Rho → Res Rho} {u : List D → Rho → Res Rho} {k1 k2 : List Nat} (h1 : PG X e (gD c G G' k1 t)) (h2 : PGs X es (gDs c G' G'' k2 u)) (hs : (assignEach (e :: es) X.env).map (·.2) = assign e X.env :: (assignEach es X.env).map (·.2) := by rfl) :
    PGs X (e :: es) (gDs c G G'' (k1 ++ k2) (tgCons t u)) := pgs_imp (pgs_cons h1 h2 hs) fun vs σ H Q ⟨S0, H0, S, r, ds, ok, hv, p⟩ => by
  cases hv with
  | nil => exact p.elim
  | @cons v vs d ds hv hr =>
    refine ⟨v, vs, rfl, S0, H0, S, r, d, ok, hv, ?_⟩
    have p : PostR c S0 H0 S H G'' σ (k1 ++ k2) ((t d r).bind (u ds)) Q := p
    cases ht : t d r with
    | ok r1 =>
      rw [ht] at p
      intro σ1 z1 ok1
      refine ⟨S0, H0, S, r1, ds, ok1, hr, ?_⟩
      have p : PostR c S0 H0 S H G'' σ (k1 ++ k2) (u ds r1) Q := p
      cases hu : u ds r1 with
      | ok r2 => rw [hu] at p; exact fun σ2 z2 ok2 => p σ2 (wipe_app z1 z2) ok2
      | err _ _ _ => rw [hu] at p; exact p.elim
      | bad => rw [hu] at p; exact p.elim
    | err _ _ _ => rw [ht] at p; exact p.elim
    | bad => rw [ht] at p; exact p.elim
def tgT (n : Nat) (u : List D → Rho → Res Rho) : D → Rho → Res Rho := fun d r => match d with
  | .tup ds => if ds.length = n then u ds r else .bad
  | .kt ds => if ds.length = n then u ds r else .bad
  | _ => .bad
theorem dg_tup {es : List Expr} {k n : Nat} {ks : List Nat} {u : List D → Rho → Res Rho} (hc : X.calm = true) (h : PGs X es (gDs c G G' ks u)) (hn : (assignEach es X.env).length = n := by rfl) (hst : (assignEach es X.env).findIdx? (·.1) = none := by rfl) (hK : c.K = X.K := by rfl) :
    PG X (.Tuple es k pos) (gD c G G' ks (tgT n u)) := pg_imp (pg_tup hc h hn hst) fun v σ H Q ⟨S0, H0, S, r, d, ok, hv, p⟩ => by
  unfold tgT at p
  cases hv with
  | @kt a xs ds q rr =>
    dsimp only at p
    by_cases hl : ds.length = n
    · rw [if_pos hl] at p
      exact ⟨a, xs, rfl, by rw [← hK]; exact ok.ex.t q, by rw [rr.length]; exact hl, S0, H0, S, r, ds, ok, rr, p⟩
    · rw [if_neg hl] at p; exact p.elim
  | @tup a xs ds q rr =>
    dsimp only at p
    by_cases hl : ds.length = n
    · rw [if_pos hl] at p
      exact ⟨a, xs, rfl, by rw [← hK]; exact .inl (.inl (ok.ex _ _ q)), by rw [rr.length]; exact hl, S0, H0, S, r, ds, ok, rr, p⟩
    · rw [if_neg hl] at p; exact p.elim
  | _ => exact p.elim
def asgF (t : D → Rho → Res Rho) (f : Rho → Res D) : Rho → SR := fun r => liftS r (f r) fun d => match t d r with
  | .ok r' => .nx r'
  | _ => .bad
/-- target = e -/
theorem ds_asg {tg : Expr} {ks : List Nat} {t : D → Rho → Res Rho} (hg : Gok c G) (he : PE X e (tV c G f)) (ht : PG X tg (gD c G G' ks t)) (hs : swapsWithSole [tg] e pos.line X.env = pure false := by rfl) (hw : swappedStores [tg] e X.env = pure none := by rfl)
    (h1 : (assignEach [tg] X.env).map (·.2) = [assign tg X.env] := by rfl) : PS X (.Assign [tg] e pos) (sD c L G G' (asgF t f)) := ps_imp (ps_asg he ht hs hw h1) fun E σ H ⟨S0, H0, S, r, ok, p⟩ => st_seq hg ok p fun d v S1 H1 w1 o1 m1 p1 => by
  refine ⟨S0, H0, S1, r, d, o1, m1, ?_⟩
  cases ht : t d r with
  | ok r' => rw [ht] at p1; exact fun σ' _ ok' => p1 σ' S1 H1 ok'
  | err _ _ _ => rw [ht] at p1; exact p1.elim
  | bad => rw [ht] at p1; exact p1.elim
/-- x, y = a, b -/
def parF (i j : Nat) (f1 f2 : Rho → Res D) : Rho → SR := fun r => liftS r (dCons f1 (dCons f2 dNil) r) fun ds => match ds with
  | [d, e] => .nx ((r.set i (some d)).set j (some e))
  | _ => .bad
theorem ds_par (i j : Nat) {x y : Str} {px py pt pt2 : Pos} {kt k2 : Nat} (hg : Gok c G) (hc : X.calm = true) (hN : X.N.Nodup) (hi : X.N[i]? = some x) (hj : X.N[j]? = some y) (hij : i ≠ j)
    (hx : X.env.scope.names.lookup x = some .local) (hy : X.env.scope.names.lookup y = some .local) (ha : PE X a (tV c G f1)) (hb : PE X b (tV c G f2))
    (hw : swappedStores [.Tuple [.Name x px, .Name y py] kt pt] (.Tuple [a, b] k2 pt2) X.env = pure (some [x, y]))
    (hs : swapsWithSole [.Tuple [.Name x px, .Name y py] kt pt] (.Tuple [a, b] k2 pt2) pos.line X.env = pure false := by rfl)
    (hs1 : starEach [a, b] X.env = (false, eval a X.env) :: starEach [b] X.env := by rfl) (hs2 : starEach [b] X.env = (false, eval b X.env) :: starEach [] X.env := by rfl) :
    PS X (.Assign [.Tuple [.Name x px, .Name y py] kt pt] (.Tuple [a, b] k2 pt2) pos) (sD c L G ((G.set i .v).set j .v) (parF i j f1 f2)) :=
  ps_imp (ps_par hc hN hi hj hij hx hy (da_cons ha (da_cons hb da_nil hs2) hs1) hw hs) fun E σ H ⟨S0, H0, S, r, ok, p⟩ => st_seq hg ok p fun ds vs S1 H1 w1 o1 m1 p1 => by
    match ds, m1, p1 with
    | [d, e], .cons hd (.cons he .nil), p1 => exact ⟨_, _, rfl, p1 _ S1 H1 ((o1.setV i hd).setV j he)⟩
    | [], _, p1 => exact p1.elim
    | [_], _, p1 => exact p1.elim
    | _ :: _ :: _ :: _, _, p1 => exact p1.elim
def YOk (c : Cf) (S' : Hp) (ds : List D) (Y : Nat → Hp → V → Hp → Prop) : Prop := ∀ i S1 H1 x H2, i < ds.length → Ex S' S1 → Ex S1 H1 → Y i H1 x H2 → ∃ S2 d, Fwd S1 H1 S2 H2 ∧ ds[i]? = some d ∧ Rp c.K c.cm S2 x d
/-- the iterator J gives the data ds -/
def Gives (c : Cf) (H0 S' : Hp) (J : It) (ds : List D) : Prop := ∃ Gd Y, Walk J ds.length Gd Y ∧ (∀ S'' H'', Ex S' S'' → Ex S'' H'' → Ex H0 H'' → Gd H'') ∧ YOk c S' ds Y
def iD (c : Cf) (G : List Ow) (f : Rho → Res (List D)) : TI := fun σ H R => ∃ S0 H0 S r, EnvOk c S0 H0 G S H σ r ∧ PostG c σ S H (f r) fun ds S' H' => ∀ J, Gives c H0 S' J ds → R J H'
theorem pi_imp {tg it : Expr} {t t' : TI} (h : PI X tg it t) (k : ∀ σ H R, t' σ H R → t σ H R) : PI X tg it t' := ⟨fun pins s σ H R I q => h.run pins s σ H R I (k σ H R q)⟩
def dIt (g : D → Res (List D)) (f : Rho → Res D) : Rho → Res (List D) := fun r => (f r).bind g
theorem gives_list {c : Cf} {H0 S : Hp} {q : Addr} {xs : List V} {ds : List D} (h : SqL c.K S q xs) (rr : RpA c.K c.cm S xs ds) : Gives c H0 S (Itl c.K q) ds := by
  refine ⟨_, _, by rw [← rr.length]; exact walk_list (K := c.K) (a := q) (xs := xs), fun S'' H'' e1 e2 _ => e2.l (e1.l h), fun i S1 H1 x H2 hi e1 e2 y => ?_⟩
  obtain ⟨rfl, hx⟩ := y
  obtain ⟨d, h1, h2⟩ := rr.getV hx
  exact ⟨S1, d, Fwd.refl e2, h1, h2.mono e1⟩
variable {tg : Expr}
theorem di_list (he : PE X e (tV c G f)) (hK : c.K = X.K := by rfl) : PI X tg e (iD c G (dIt itemsL f)) := pi_imp (pi_list he) fun σ H R ⟨S0, H0, S, r, ok, p⟩ => rd_seq ok p fun d v S1 H1 w1 o1 m1 p1 => by
  rw [← hK]
  cases d with
  | lst ds =>
    cases m1 with | @lst q xs _ h rr =>
    exact ⟨q, rfl, ⟨xs, .inl (.inl (o1.ex _ _ h))⟩, p1.go o1.ex _ (gives_list (.inl (.inl h)) rr)⟩
  | fz ds =>
    cases m1 with | @fz q xs _ h rr =>
    exact ⟨q, rfl, ⟨xs, o1.ex.l h⟩, p1.go o1.ex _ (gives_list h rr)⟩
  | _ => exact p1.elim
/-- range(n), range(a, b) -/
def rngL (lo : Int) (n : Nat) : List D := (List.range n).map fun (i : Nat) => D.int (lo + (i : Int))
theorem gives_rng {c : Cf} {H0 S : Hp} {lo : Int} {n : Nat} : Gives c H0 S (Itr lo n) (rngL lo n) := by
  have hl : (rngL lo n).length = n := by unfold rngL; simp
  refine ⟨_, _, by rw [hl]; exact walk_range, fun _ _ _ _ _ => trivial, fun i S1 H1 x H2 hi e1 e2 y => ?_⟩
  obtain ⟨rfl, rfl⟩ := y
  rw [hl] at hi
  exact ⟨S1, .int (lo + (i : Int)), Fwd.refl e2, by unfold rngL; simp [hi], .int _⟩
noncomputable def rng1 : List D → Res (List D)
  | [.int n] => guard (-4611686018427387904 ≤ n ∧ n < 4611686018427387904) (.ok (rngL 0 n.toNat))
  | _ => .bad
def dIts (g : List D → Res (List D)) (fs : Rho → Res (List D)) : Rho → Res (List D) := fun r => (fs r).bind g
theorem di_rng1 {p : Pos} {fs : Rho → Res (List D)} (hm : X.mg "range" = none) (hg : Gl X "range") (ha : PA X [a] (tAs c G fs)) (hs : starEach [a] X.env = [(false, eval a X.env)] := by rfl) : PI X tg (.Call (.Name "range" p) [a] [] pos) (iD c G (dIts rng1 fs)) :=
  pi_imp (pi_range1 hg hm ha hs) fun σ H R ⟨S0, H0, S, r, ok, p⟩ => rd_seq ok p fun ds vs S1 H1 w1 o1 m1 p1 => by
    unfold rng1 at p1
    split at p1
    · obtain ⟨hl, p1⟩ := p1.gd
      match vs, m1 with
      | _, .cons h .nil => cases h; exact ⟨_, rfl, by have := hl.1; omega, by have := hl.2; omega, p1.go o1.ex _ gives_rng⟩
    · exact p1.elim
/-- the signs of a text -/
def signs (z : Str) : List D := z.cps.toList.map fun n => .str ⟨#[n]⟩
def itemsS : D → Res (List D)
  | .str z => .ok (signs z)
  | _ => .bad
def loopF (t : D → Rho → Res Rho) (F : Rho → SR) : List D → Rho → SR
  | [], r => .nx r
  | d :: ds, r => match t d r with
    | .ok r1 => match F r1 with
      | .nx r2 => loopF t F ds r2
      | .ct r2 => loopF t F ds r2
      | .bk r2 => .nx r2
      | o => o
    | _ => .bad
def forF (its : Rho → Res (List D)) (t : D → Rho → Res Rho) (F : Rho → SR) : Rho → SR := fun r => liftS r (its r) fun ds => loopF t F ds r
theorem ds_for {iter : Expr} {body : List Stmt} {its : Rho → Res (List D)} {ks : List Nat} {t : D → Rho → Res Rho} {F : Rho → SR} (hg : Gok c G) (hp : PassesOwn (model X.prog X.w) X.A X.env X.xe) (hc : X.calm = true) (hi : PI X tg iter (iD c G its)) (ht : PG X tg (gD c G G' ks t)) (hb : PSs X body (sD c G G' G F))
    (hs : ∀ x, foldedSetIterable iter X.env x = pure x := by intro _; rfl) : PS X (.For tg iter body [] pos) (sD c L G G (forF its t F)) :=
  ps_imp (ps_for hp hc hi ht hb hs) fun E σ H ⟨S0, H0, S, r, ok, p⟩ => by
    refine ⟨S0, H0, S, r, ok, ?_⟩
    unfold forF at p
    cases hf : its r with
    | err n ns vs =>
      rw [hf] at p
      exact fun C dd S' H' fs h1 fw h2 h3 h4 => p C dd σ S' H' fs h1 (ok.fwd.trans fw) (fun g q => by rw [hg g q]; exact ok.go fw) h2 h3 h4
    | bad => rw [hf] at p; exact p.elim
    | ok ds =>
      rw [hf] at p
      intro S1 H1 w1 J ⟨Gd, Y, wk, hG, hY⟩
      have p : PostS c S0 H0 L G (loopF t F ds r) E := p
      refine for_it wk (fun i σ' H' => ∃ S' r', Ex S1 S' ∧ EnvOk c S0 H0 G S' H' σ' r' ∧ PostS c S0 H0 L G (loopF t F (ds.drop i) r') E) ⟨S1, r, Ex.refl, ok.go w1, by rw [List.drop_zero]; exact p⟩ ?_ ?_ ?_
      · rintro i σ' H' _ ⟨S', r', e1, ok', _⟩
        exact hG S' H' e1 ok'.ex ok'.fwd.h
      · rintro i x σ' H' H2 hi ⟨S', r', e1, ok', p'⟩ y
        obtain ⟨S2, d, fw, hd, hx⟩ := hY i S' H' x H2 hi e1 ok'.ex y
        have hdrop : ds.drop i = d :: ds.drop (i + 1) := by
          rw [List.drop_eq_getElem_cons hi]
          rw [List.getElem?_eq_getElem hi] at hd
          cases hd; rfl
        rw [hdrop] at p'
        unfold loopF at p'
        refine ⟨S0, H0, S2, r', d, ok'.go fw, hx, ?_⟩
        cases htt : t d r' with
        | err _ _ _ => rw [htt] at p'; exact p'.elim
        | bad => rw [htt] at p'; exact p'.elim
        | ok r1 =>
          rw [htt] at p'
          intro σ3 _ ok3
          refine ⟨S2, H0, S2, r1, ok3.rebase, ?_⟩
          dsimp only at p'
          have fin : ∀ σ4 S4 H4 r4, EnvOk c S2 H0 G S4 H4 σ4 r4 → PostS c S0 H0 L G (loopF t F (ds.drop (i + 1)) r4) E → ∃ S' r', Ex S1 S' ∧ EnvOk c S0 H0 G S' H4 σ4 r' ∧ PostS c S0 H0 L G (loopF t F (ds.drop (i + 1)) r') E := fun σ4 S4 H4 r4 e4 p4 =>
            ⟨S4, r4, (e1.trans fw.s).trans e4.fwd.s, e4.unbase ok3.fwd, p4⟩
          cases hF : F r1 with
          | nx r2 => rw [hF] at p'; exact fun σ4 S4 H4 e4 => fin σ4 S4 H4 r2 e4 p'
          | ct r2 => rw [hF] at p'; exact fun σ4 S4 H4 e4 => fin σ4 S4 H4 r2 e4 p'
          | bk r2 => rw [hF] at p'; exact fun σ4 S4 H4 e4 => p' σ4 S4 H4 (e4.unbase ok3.fwd)
          | rt d => rw [hF] at p'; exact PostS.rebase (c := c) (o := .rt d) (E := E) ok3.fwd p'
          | er r2 n ns vs => rw [hF] at p'; exact PostS.rebase (c := c) (o := .er r2 n ns vs) (E := E) ok3.fwd p'
          | bad => rw [hF] at p'; exact p'.elim
      · rintro σ' H' ⟨S', r', e1, ok', p'⟩
        rw [List.drop_length] at p'
        exact p' σ' S' H' ok'
end
end Dx
end S_DxE
section S_DxF
set_option Elab.async false
set_option linter.all false
set_option maxRecDepth 100000
set_option maxHeartbeats 2000000
namespace Dx
open PySem L2
def wipeR (r : Rho) : List Nat → Rho
  | [] => r
  | v :: vs => (wipeR r vs).set v none
/-- within a comprehension nothing is raised -/
abbrev Cf.calm (c : Cf) : Cf := ⟨c.K, c.cm, fun _ _ _ _ => False, none, c.rm⟩
section
variable {X : Cx} {c : Cf} {L G G' : List Ow} {σ : St} {S0 H0 S H : Hp} {r : Rho}
theorem Fwd.put {S' H' : Hp} {p : Addr} {o : HO} (f : Fwd S H S' H') (n : H p = none) (ns : S' p = none) : Fwd S H S' (upd H' p o) := ⟨f.s, f.h.put n, f.sub.put ns, f.new⟩
def dYes : Rho → Res Bool := fun _ => .ok true
end
/-- the mode of its result: own, or a value -/
def mR (c : Cf) (rm : Bool) : Md V D := if rm then mO c else mV c
instance {c : Cf} {rm : Bool} : Anti (mR c rm) := by
  cases rm with
  | true => exact (inferInstance : Anti (mO c))
  | false => exact (inferInstance : Anti (mV c))
/-- F by data; ms the arguments' modes; rm whether the result is a new object that nothing else holds -/
def spD (K : PySem.W.Frag) (cm : CM) (ms : List Bool) (rm : Bool) (F : List D → Res D) : Sp := fun vs H Q E => ∃ S ds, Ex S H ∧ RpM ⟨K, cm, fun _ _ _ _ => False, none, rm⟩ S H ms vs ds ∧
  PostG ⟨K, cm, fun cls d _ H => E cls d H, none, rm⟩ [] S H (F ds) fun a S' H' => ∀ b, mR ⟨K, cm, fun _ _ _ _ => False, none, rm⟩ rm H S' H' b a → Q b H'
section
variable {X : Cx} {c : Cf} {L G G' : List Ow} {k : Nat} {f : Addr} {fd : FuncData} {ps : List Str} {x : Str} {p pos : Pos} {e : Expr} {es : List Expr} {fs : Rho → Res (List D)} {ms : List Bool} {rm : Bool} {F : List D → Res D}
theorem RpM.cf {c c' : Cf} {S H : Hp} (hK : c.K = c'.K) (hm : c.cm = c'.cm) : ∀ {ms : List Bool} {vs : List V} {ds : List D}, RpM c S H ms vs ds → RpM c' S H ms vs ds
  | [], [], [], _ => trivial
  | true :: ms, v :: vs, d :: ds, h => ⟨by rw [← hK, ← hm]; exact h.1, RpM.cf hK hm h.2⟩
  | false :: ms, v :: vs, d :: ds, h => ⟨by rw [← hK, ← hm]; exact h.1, RpM.cf hK hm h.2⟩
  | [], _ :: _, _, h => h.elim
  | [], [], _ :: _, h => h.elim
  | true :: _, [], _, h => h.elim
  | true :: _, _ :: _, [], h => h.elim
  | false :: _, [], _, h => h.elim
  | false :: _, _ :: _, [], h => h.elim
theorem call_rd {E : XK} {σ : St} {S H : Hp} {vs : List V} {ds : List D} {Q : VK} (hE : ∀ cls d H, c.W cls d σ H → E cls d H) (ex : Ex S H) (m : RpM c S H ms vs ds)
    (q : PostG c σ S H (F ds) fun a S' H' => ∀ b, mR c rm H S' H' b a → Q b H') : spD c.K c.cm ms rm F vs H Q E := by
  refine ⟨S, ds, ex, RpM.cf (c := c) (c' := ⟨c.K, c.cm, fun _ _ _ _ => False, none, rm⟩) rfl rfl m, ?_⟩
  cases hF : F ds with
  | ok a =>
    rw [hF] at q
    intro S' H' w b hb
    refine q S' H' w b ?_
    cases rm with
    | true => exact hb
    | false => exact hb
  | err n ns vs => rw [hF] at q; exact fun C dd S' H' fs h1 w h2 h3 h4 => hE _ _ _ (q C dd S' H' fs h1 w h2 h3 h4)
  | bad => rw [hF] at q; exact q.elim
/-- f(e, ..), f a def of the text -/
theorem de_call (F1 : FnOk X.prog X.w X.K X.mg X.base (L2.CX X.prog X.w) k f fd ps (spD c.K c.cm ms rm F)) (tk : Takes X c.W) (hr : Room k X.A) (hg : Gl X x) (hm : X.mg x = some (.ref f)) (hk : PySem.W.keepIn X.K (.ref f) = true) (hb : Binds X.K fd ps [])
    (ha : PA X (e :: es) (tM c G ms fs)) (hdb : (x == ("__debug__" : Str)) = false := by decide) (he : starEach (e :: es) X.env = (false, eval e X.env) :: starEach es X.env := by rfl) (hpl : (backTo pos (starEach es X.env)).any (·.1) = false := by rfl) :
    PE X (.Call (.Name x p) (e :: es) [] pos) (rd c G (dCall F fs) (mR c rm)) :=
  pe_imp (pe_callSD (E := fun σ cls d H => c.W cls d σ H) F1 hr hg hm hk hb .nil (fun σ => passAt tk σ) ha hdb he hpl) fun σ H Q ⟨S0, H0, S, r, ok, q⟩ => rd_seq ok q fun ds vs S1 H1 w1 o1 m1 p1 => by
    rw [List.append_nil]
    exact call_rd (fun _ _ _ h => h) o1.ex m1 (p1.anti w1.h)
theorem de_callV (F1 : FnOk X.prog X.w X.K X.mg X.base (L2.CX X.prog X.w) k f fd ps (spD c.K c.cm ms false F)) (tk : Takes X c.W) (hr : Room k X.A) (hg : Gl X x) (hm : X.mg x = some (.ref f)) (hk : PySem.W.keepIn X.K (.ref f) = true) (hb : Binds X.K fd ps [])
    (ha : PA X (e :: es) (tM c G ms fs)) (hdb : (x == ("__debug__" : Str)) = false := by decide) (he : starEach (e :: es) X.env = (false, eval e X.env) :: starEach es X.env := by rfl) (hpl : (backTo pos (starEach es X.env)).any (·.1) = false := by rfl) :
    PE X (.Call (.Name x p) (e :: es) [] pos) (tV c G (dCall F fs)) := de_call F1 tk hr hg hm hk hb ha hdb he hpl
theorem de_callO (F1 : FnOk X.prog X.w X.K X.mg X.base (L2.CX X.prog X.w) k f fd ps (spD c.K c.cm ms true F)) (tk : Takes X c.W) (hr : Room k X.A) (hg : Gl X x) (hm : X.mg x = some (.ref f)) (hk : PySem.W.keepIn X.K (.ref f) = true) (hb : Binds X.K fd ps [])
    (ha : PA X (e :: es) (tM c G ms fs)) (hdb : (x == ("__debug__" : Str)) = false := by decide) (he : starEach (e :: es) X.env = (false, eval e X.env) :: starEach es X.env := by rfl) (hpl : (backTo pos (starEach es X.env)).any (·.1) = false := by rfl) :
    PE X (.Call (.Name x p) (e :: es) [] pos) (tO c G (dCall F fs)) := de_call F1 tk hr hg hm hk hb ha hdb he hpl
def startR (n : Nat) (ds : List D) : Rho := ds.map some ++ List.replicate (n - ds.length) none
def G0 (ms : List Bool) (n : Nat) : List Ow := ms.map (fun m => if m then .b else .v) ++ List.replicate (n - ms.length) .v
def runF (n : Nat) (rm : Bool) (Fb : Rho → SR) (ds : List D) : Res D := match Fb (startR n ds) with
  | .rt d => .ok d
  | .nx _ => if rm then .bad else .ok .non
  | .er _ n ns vs => .err n ns vs
  | _ => .bad
theorem RpM.get {S H : Hp} : ∀ {ms : List Bool} {vs : List V} {ds : List D} {i : Nat} {d : D}, RpM c S H ms vs ds → ds[i]? = some d → ∃ v m, vs[i]? = some v ∧ ms[i]? = some m ∧ SlotOk c H S H (if m then .b else .v) v d
  | [], [], [], _, _, _, h => by simp at h
  | true :: ms, v :: vs, d :: ds, 0, e, h, q => by simp at q; subst q; exact ⟨v, true, by simp, by simp, h.1⟩
  | false :: ms, v :: vs, d :: ds, 0, e, h, q => by simp at q; subst q; exact ⟨v, false, by simp, by simp, h.1⟩
  | true :: ms, v :: vs, d :: ds, i + 1, e, h, q => by
    obtain ⟨v, m, h1, h2, h3⟩ := RpM.get (i := i) h.2 (by simpa using q)
    exact ⟨v, m, by simpa using h1, by simpa using h2, h3⟩
  | false :: ms, v :: vs, d :: ds, i + 1, e, h, q => by
    obtain ⟨v, m, h1, h2, h3⟩ := RpM.get (i := i) h.2 (by simpa using q)
    exact ⟨v, m, by simpa using h1, by simpa using h2, h3⟩
  | [], _ :: _, _, _, _, h, _ => h.elim
  | [], [], _ :: _, _, _, h, _ => h.elim
  | true :: _, [], _, _, _, h, _ => h.elim
  | true :: _, _ :: _, [], _, _, h, _ => h.elim
  | false :: _, [], _, _, _, h, _ => h.elim
  | false :: _, _ :: _, [], _, _, h, _ => h.elim
theorem RpM.len {S H : Hp} : ∀ {ms : List Bool} {vs : List V} {ds : List D}, RpM c S H ms vs ds → vs.length = ms.length ∧ ds.length = ms.length
  | [], [], [], _ => ⟨rfl, rfl⟩
  | true :: ms, v :: vs, d :: ds, h => by have := RpM.len h.2; simp [this.1, this.2]
  | false :: ms, v :: vs, d :: ds, h => by have := RpM.len h.2; simp [this.1, this.2]
  | [], _ :: _, _, h => h.elim
  | [], [], _ :: _, h => h.elim
  | true :: _, [], _, h => h.elim
  | true :: _, _ :: _, [], h => h.elim
  | false :: _, [], _, h => h.elim
  | false :: _, _ :: _, [], h => h.elim
theorem kd_G0 {ms : List Bool} {n i : Nat} : ¬ isO (kd (G0 ms n) i) := by
  unfold kd G0
  rw [List.getD_eq_getElem?_getD, List.getElem?_append]
  split
  · rw [List.getElem?_map]
    cases ms[i]? with
    | none => intro h; cases h
    | some m => cases m <;> (intro h; cases h)
  · rw [List.getElem?_replicate]
    split <;> (intro h; cases h)
theorem kd_G0_sw {ms : List Bool} {n i : Nat} : (∀ P, kd (G0 ms n) i ≠ .s P) ∧ kd (G0 ms n) i ≠ .w := by
  unfold kd G0
  rw [List.getD_eq_getElem?_getD, List.getElem?_append]
  split
  · rw [List.getElem?_map]
    cases ms[i]? with
    | none => exact ⟨fun _ h => (by cases h), fun h => (by cases h)⟩
    | some m => cases m <;> exact ⟨fun _ h => (by cases h), fun h => (by cases h)⟩
  · rw [List.getElem?_replicate]
    split <;> exact ⟨fun _ h => (by cases h), fun h => (by cases h)⟩
theorem kd_G0_at {ms : List Bool} {n i : Nat} {m : Bool} (h : ms[i]? = some m) : kd (G0 ms n) i = if m then .b else .v := by
  unfold kd G0
  have hl : i < ms.length := (List.getElem?_eq_some_iff.mp h).1
  rw [List.getD_eq_getElem?_getD, List.getElem?_append, if_pos (by simpa using hl), List.getElem?_map, h]
  rfl
theorem startR_some {n i : Nat} {ds : List D} {d : D} (h : (startR n ds)[i]? = some (some d)) : ds[i]? = some d := by
  unfold startR at h
  rw [List.getElem?_append] at h
  split at h
  · rw [List.getElem?_map] at h
    cases q : ds[i]? with
    | none => rw [q] at h; cases h
    | some e => rw [q] at h; cases h; rfl
  · rw [List.getElem?_replicate] at h
    split at h <;> cases h
theorem env_start {N : List Str} {S H : Hp} {vs : List V} {ds : List D} (ex : Ex S H) (m : RpM c S H ms vs ds) (hn : ms.length ≤ N.length) : EnvOk c S H (G0 ms N.length) S H (L2.start N vs) (startR N.length ds) := by
  have hl := m.len
  refine ⟨Fwd.refl ex, by unfold L2.start startR; simp [hl.1, hl.2], fun i d h => ?_, fun i j d e p _ _ k _ _ _ => absurd k kd_G0, ⟨[], .nil fun _ _ _ => kd_G0_sw⟩⟩
  have hd := startR_some h
  obtain ⟨v, mm, h1, h2, h3⟩ := m.get hd
  refine ⟨v, ?_, by rw [kd_G0_at h2]; exact h3⟩
  unfold L2.start
  have hlt : i < vs.length := (List.getElem?_eq_some_iff.mp h1).1
  rw [List.getElem?_append, if_pos (by simpa using hlt), List.getElem?_map, h1]
  rfl
end
section
variable {P : Program} {w : World} {K : PySem.W.Frag} {mg : Str → Option Value} {base : Heap} {cm : CM}
abbrev cfE (K : PySem.W.Frag) (cm : CM) (rm : Bool) (E : XK) : Cf := ⟨K, cm, fun cls d _ H => E cls d H, none, rm⟩
/-- THE RULE for a def: its body by data -/
theorem dok {x qual : Str} {st : Stmt} {f : Addr} {fd : FuncData} {N ps : List Str} {k : Nat} {ms : List Bool} {rm : Bool} {G' : List Ow} {Fb : Rho → SR} (F : Fun K x qual st f fd) (S : FnScope N ps (defScope st)) (hm : ms.length = ps.length) (hn : ps.length ≤ N.length)
    (hb : ∀ (cdv : Value) (A : Around) (outer : List Env) (s : Shared) (H : Hp) (E : XK), Room k (A.deeper (PyProof.Rows.envOfC qual (defScope st) s.heap.objs.size f cdv)) →
      PSs (cxOf (L2.CX P w) P w K mg base N qual (defScope st) f cdv A outer s H E) (defBody st) (sD (cfE K cm rm E) [] (G0 ms N.length) G' Fb)) :
    FnOk P w K mg base (L2.CX P w) (k + 1) f fd ps (spD K cm ms rm (runF N.length rm Fb)) := by
  refine F.okX S (fun vs H Q E h => ?_) (fun cdv A outer s H vs Q E hr h => ?_)
  · obtain ⟨S, ds, _, m, _⟩ := h
    rw [m.len.1, hm]
  · obtain ⟨S, ds, ex, m, q⟩ := h
    refine ⟨_, hb cdv A outer s H E hr, S, H, S, startR N.length ds, env_start ex (RpM.cf (c := ⟨K, cm, fun _ _ _ _ => False, none, rm⟩) (c' := cfE K cm rm E) rfl rfl m) (by omega), ?_⟩
    unfold runF at q
    cases hF : Fb (startR N.length ds) with
    | rt d =>
      rw [hF] at q
      show PostS _ _ _ _ _ (.rt d) _
      unfold PostS
      dsimp only
      cases rm with
      | true => exact fun p ho S' H' fw n ns hp hh => q S' H' fw _ ⟨p, ho, rfl, n, ns, hp, hh⟩
      | false => exact fun v S' H' fw hv => q S' H' fw v hv
    | nx r =>
      rw [hF] at q
      cases rm with
      | true => exact q.elim
      | false => exact fun σ' S' H' ok => q S' H' ok.fwd _ Rp.non
    | er r n ns vs =>
      rw [hF] at q
      exact fun C dd σ' S' H' fs h1 fw _ h2 h3 h4 => q C dd S' H' fs h1 fw h2 h3 h4
    | bk r => rw [hF] at q; exact q.elim
    | ct r => rw [hF] at q; exact q.elim
    | bad => rw [hF] at q; exact q.elim
end
end Dx
end S_DxF
section S_DxG
set_option Elab.async false
set_option linter.all false
set_option maxRecDepth 100000
set_option maxHeartbeats 2000000
namespace Dx
open PySem L2
section
variable {X : Cx} {c : Cf} {L G G' : List Ow}
def spX1 (K : PySem.W.Frag) (C : Addr) (f : Str) : Sp := fun vs H Q _ => ∃ (a : Addr) (w : V), vs = [.ref a, w] ∧ OexC K C ∧ PySem.W.findIn K (.ref C) f = some none ∧ H a = some (exo a C none) ∧
  ∀ d, H d = none → d ≠ a → Q .non (upd (upd H d (exd d [(f, w)])) a (exo a C (some d)))
theorem xinit1 {P : Program} {w : World} {K : PySem.W.Frag} {mg : Str → Option Value} {base : Heap} {qual : Str} {st : Stmt} {fI C : Addr} {fd : FuncData} {N ps : List Str} {fl : Str} (F : Fun K "__init__" qual st fI fd) (S : FnScope N ps (defScope st)) (hl : ps.length = 2) (hN : N.length = 2)
    (hb : ∀ (cdv : Value) (A : Around) (outer : List Env) (s : Shared) (H : Hp) (E : XK), PSs (cxOf (L2.CX P w) P w K mg base N qual (defScope st) fI cdv A outer s H E) (defBody st) (tOst K fl (tVar 0) (tVar 1))) :
    FnOk P w K mg base (L2.CX P w) 1 fI fd ps (spX1 K C fl) := by
  refine F.okX (k := 0) S (fun vs H Q E h => ?_) (fun cdv A outer s H vs Q E hr h => ?_)
  · obtain ⟨a, w, rfl, _⟩ := h; exact hl.symm
  · obtain ⟨a, w', rfl, T, hno, ha, q⟩ := h
    refine ⟨_, hb cdv A outer s H E, ?_⟩
    have e : L2.start N [.ref a, w'] = [some (.ref a), some w'] := by unfold L2.start; rw [hN]; rfl
    rw [e]
    exact ⟨w', rfl, .ref a, rfl, a, C, rfl, T, hno, .inl ⟨ha, q⟩⟩
def raiF (n : Str) (ns : List Str) (rev : Bool) (fs : Rho → Res (List D)) : Rho → SR := fun r => liftS r (fs r) fun ds => if ds.length = ns.length then .er r n ns (if rev then ds.reverse else ds) else .bad
variable {e e2 : Expr} {fs : Rho → Res (List D)} {x n : Str} {C fI : Addr} {fd : FuncData} {ps : List Str} {p p' pos : Pos} {fl gl : Str}
theorem heap_x1 {H1 : Hp} {a d C : Addr} {o1 o2 o3 o4 o : HO} (ha : H1 a = none) (hne : d ≠ a) : upd (del (upd (upd (upd H1 a o1) d o2) a o3) a) d o = upd H1 d o := by
  funext b
  by_cases hb : b = d
  · subst hb; rw [upd_same, upd_same]
  · rw [upd_ne hb, upd_ne hb]
    by_cases hba : b = a
    · subst hba; rw [del_same, ha]
    · rw [del_ne hba, upd_ne hba, upd_ne hb, upd_ne hba]
theorem ds_raise1 (hg : Gok c G) (hcn : c.cm n = some C) (hc : X.calm = true) (tk : Takes X c.W) (T : OexC X.K C) (iC : PySem.W.findIn X.K (.ref C) "__init__" = some (some (.ref fI))) (tI : PySem.W.typeIn X.K (.ref fI) = some (.type "function")) (hno : PySem.W.findIn X.K (.ref C) fl = some none)
    (F1 : FnOk X.prog X.w X.K X.mg X.base (L2.CX X.prog X.w) 1 fI fd ps (spX1 X.K C fl)) (hr : Room 2 X.A) (hb : Binds X.K fd ps []) (hgx : Gl X x) (hm : X.mg x = some (.ref C)) (ha : PA X [e] (tAs c G fs))
    (hdb : (x == ("__debug__" : Str)) = false := by decide) (he : starEach [e] X.env = (false, eval e X.env) :: starEach [] X.env := by rfl) :
    PS X (.Raise (some (.Call (.Name x p) [e] [] p')) none pos) (sD c L G G' (raiF n [fl] false fs)) :=
  ps_imp (ps_raise hc tk (pmk_oex T iC tI F1 hr hb .nil passL hgx hm ha hdb he rfl)) fun E σ H ⟨S0, H0, S, r, ok, q⟩ => st_seq hg ok q fun ds vs S1 H1 w1 o1 m1 p1 => by
    obtain ⟨hl, p1⟩ := p1.ite
    match ds, vs, m1, hl with
    | [d1], [v1], .cons hv .nil, _ =>
      refine ⟨by show 1 ≤ 1000; decide, fun a na => ⟨a, v1, rfl, T, hno, upd_same, fun d hd hne => ⟨rfl, d, [(fl, v1)], upd_same, by rw [upd_ne hne, upd_same], by rw [upd_ne hne] at hd; exact hd, ?_⟩⟩⟩
      rw [upd_ne hne] at hd
      rw [heap_x1 (C := C) (o4 := .lst []) na hne]
      exact p1 C d σ (upd S1 d (.xd [(fl, v1)])) _ [(fl, v1)] hcn (o1.fwd.trans (Fwd.both o1.ex hd)) (fun g hgg => by rw [hg g hgg]; exact o1.go (Fwd.both o1.ex hd)) upd_same rfl (.cons (hv.mono (Ex.new (o1.ex.nn hd))) .nil)
def unsetS (i : Nat) : SR → SR
  | .nx r => .nx (r.set i none)
  | .bk r => .bk (r.set i none)
  | .ct r => .ct (r.set i none)
  | .er _ _ _ _ => .bad
  | o => o
def tryF (isM : Str → Option Bool) (i : Nat) (Fb Fs : Rho → SR) : Rho → SR := fun r => match Fb r with
  | .er r' n ns vs => match isM n with
    | some true => unsetS i (Fs (r'.set i (some (.obj n ns vs))))
    | some false => .er r' n ns vs
    | none => .bad
  | o => o
theorem EnvOk.unset {S0 H0 S H : Hp} {σ : St} {r : Rho} (e : EnvOk c S0 H0 G S H σ r) (i : Nat) : EnvOk c S0 H0 (G.set i .v) S H (σ.set i none) (r.set i none) := by
  refine ⟨e.fwd, by simp [e.len], fun j d h => ?_, fun j k d d' p hj hk kj kk sj sk => ?_, let ⟨A, hA⟩ := e.sto; ⟨A, hA.sub (fun a ha => (hA.out a ha).1) (fun _ _ => rfl) Ex.refl (fun j d p hj kj sj => ?_) fun j d kj hj => ?_⟩⟩
  · rcases set_some h with ⟨_, z, _⟩ | ⟨ne, h⟩
    · cases z
    · obtain ⟨v, h1, h2⟩ := e.slot j d h
      exact ⟨v, by rw [List.getElem?_set_ne ne]; exact h1, by rw [kd_set_ne ne]; exact h2⟩
  · rcases set_some hj with ⟨_, z, _⟩ | ⟨nj, hj⟩
    · cases z
    · rcases set_some hk with ⟨_, z, _⟩ | ⟨nk, hk⟩
      · cases z
      · rw [kd_set_ne nj] at kj
        rw [kd_set_ne nk] at kk
        rw [List.getElem?_set_ne nj] at sj
        rw [List.getElem?_set_ne nk] at sk
        exact e.sep j k d d' p hj hk kj kk sj sk
  · rcases set_some hj with ⟨_, z, _⟩ | ⟨nj, hj⟩
    · cases z
    · rw [kd_set_ne nj] at kj
      rw [List.getElem?_set_ne nj] at sj
      exact hA.own j d p hj kj sj
  · rcases set_some hj with ⟨_, z, _⟩ | ⟨nj, hj⟩
    · cases z
    · rw [kd_set_ne nj, List.getElem?_set_ne nj]
      exact ⟨rfl, hj, rfl⟩
/-- the slot of a caught exception -/
theorem EnvOk.setX {c' : Cf} {S0 H0 S H : Hp} {σ : St} {r : Rho} {a C dd : Addr} {n : Str} {ns : List Str} {vs : List D} {fs : List (Str × V)} (e : EnvOk c S0 H0 G S H σ r) (hK : c'.K = c.K) (hcm : c'.cm = c.cm) (i : Nat) (hi : i < G.length) (h1 : c.cm n = some C) (h2 : S dd = some (.xd fs)) (h3 : ns = fs.map (·.1)) (h4 : RpA c.K c.cm S (fs.map (·.2)) vs) :
    EnvOk c' S0 H0 (G.set i (.x a C dd)) S H (σ.set i (some (.ref a))) (r.set i (some (.obj n ns vs))) := by
  have sl : ∀ k v d, SlotOk c H0 S H k v d → SlotOk c' H0 S H k v d := fun k v d h => by
    cases k with
    | v => unfold SlotOk at h ⊢; rw [hK, hcm]; exact h
    | o => unfold SlotOk at h ⊢; rw [hK, hcm]; exact h
    | b => unfold SlotOk at h ⊢; rw [hK, hcm]; exact h
    | s P => exact h
    | w => exact h
    | x a C dd => unfold SlotOk at h ⊢; rw [hK, hcm]; exact h
    | i a => unfold SlotOk at h ⊢; rw [hK, hcm]; exact h
  have sto' : ∃ A, StoOk c'.K c'.cm H0 (G.set i (.x a C dd)) S H (σ.set i (some (.ref a))) (r.set i (some (.obj n ns vs))) A := by
    obtain ⟨A, hA⟩ := e.sto
    rw [hK, hcm]
    refine ⟨A, hA.sub (fun a ha => (hA.out a ha).1) (fun _ _ => rfl) Ex.refl (fun j d p hj kj sj => ?_) fun j d kj hj => ?_⟩
    · have nj : i ≠ j := fun z => by subst z; rw [kd_set_o hi] at kj; cases kj
      rw [List.getElem?_set_ne nj] at hj sj
      rw [kd_set_ne nj] at kj
      exact hA.own j d p hj kj sj
    · have nj : i ≠ j := fun z => by subst z; rw [kd_set_o hi] at kj; rcases kj with ⟨_, kj⟩ | kj <;> cases kj
      rw [List.getElem?_set_ne nj] at hj
      rw [kd_set_ne nj, List.getElem?_set_ne nj]
      exact ⟨rfl, hj, rfl⟩
  refine ⟨e.fwd, by simp [e.len], fun j d h => ?_, fun j k d d' p hj hk kj kk sj sk => ?_, sto'⟩
  · rcases set_some h with ⟨rfl, z, hl⟩ | ⟨ne, h⟩
    · cases z
      refine ⟨.ref a, by rw [List.getElem?_set_self (by rw [e.len]; exact hl)], ?_⟩
      rw [kd_set_o hi]
      exact ⟨rfl, n, ns, vs, fs, rfl, by rw [hcm]; exact h1, h2, h3, by rw [hK, hcm]; exact h4⟩
    · obtain ⟨v, q1, q2⟩ := e.slot j d h
      exact ⟨v, by rw [List.getElem?_set_ne ne]; exact q1, by rw [kd_set_ne ne]; exact sl _ _ _ q2⟩
  · have nj : i ≠ j := fun z => by subst z; rw [kd_set_o hi] at kj; cases kj
    have nk : i ≠ k := fun z => by subst z; rw [kd_set_o hi] at kk; cases kk
    rw [List.getElem?_set_ne nj] at hj sj
    rw [List.getElem?_set_ne nk] at hk sk
    rw [kd_set_ne nj] at kj
    rw [kd_set_ne nk] at kk
    exact e.sep j k d d' p hj hk kj kk sj sk
/-- the kinds told ahead; what they are is the same whatever the wishes -/
theorem EnvOk.cf {c' : Cf} {S0 H0 S H : Hp} {σ : St} {r : Rho} (e : EnvOk c S0 H0 G S H σ r) (hK : c'.K = c.K) (hcm : c'.cm = c.cm) : EnvOk c' S0 H0 G S H σ r := by
  refine ⟨e.fwd, e.len, fun j d h => ?_, e.sep, by rw [hK, hcm]; exact e.sto⟩
  obtain ⟨v, q1, q2⟩ := e.slot j d h
  refine ⟨v, q1, ?_⟩
  cases kj : kd G j with
  | v => rw [kj] at q2; unfold SlotOk at q2 ⊢; rw [hK, hcm]; exact q2
  | o => rw [kj] at q2; unfold SlotOk at q2 ⊢; rw [hK, hcm]; exact q2
  | b => rw [kj] at q2; unfold SlotOk at q2 ⊢; rw [hK, hcm]; exact q2
  | s P => rw [kj] at q2; exact q2
  | w => rw [kj] at q2; exact q2
  | x a C dd => rw [kj] at q2; unfold SlotOk at q2 ⊢; rw [hK, hcm]; exact q2
  | i a => rw [kj] at q2; unfold SlotOk at q2 ⊢; rw [hK, hcm]; exact q2
abbrev Cf.try (c : Cf) (W : WX) (G : List Ow) : Cf := ⟨c.K, c.cm, W, some G, c.rm⟩
theorem ds_try {nm xn : Str} {cv : Value} {i : Nat} {body suite : List Stmt} {b0 : Stmt} {np p1 : Pos} {isM : Str → Option Bool} {Fb Fs : Rho → SR} {Gs : List Ow} (hge : Gok c G) (hs : X.stack = X.env :: X.outer) (hf : X.env.frame = some X.env.locals) (hN : X.N.Nodup) (hi : X.N[i]? = some nm) (hln : X.env.kindOf nm = some .local) (hc : Names X xn cv) (tk : Takes X c.W)
    (hG : i < G.length) (hM : ∀ n C b, c.cm n = some C → isM n = some b → PySem.W.exmOne X.K (.ref C) cv = some b)
    (hb : ∀ (W : WX) (pn : List (Addr × Obj)) (xe : Value → Shared → Prop), Takes (X.tr pn xe) W → PassesOwn (model X.prog X.w) X.A X.env xe → PSs (X.tr pn xe) body (sD (c.try W G) L G G' Fb))
    (hsu : ∀ (a C dd : Addr) (oe : Obj) (pn : List (Addr × Obj)), (∃ n, c.cm n = some C ∧ isM n = some true) → Zc (.ref C) (some dd) oe → (∃ vs, oe.data = .fields vs) → PSs (X.suite a ((a, oe) :: pn)) (b0 :: suite) (sD c.calm (L.set i (.x a C dd)) (G.set i (.x a C dd)) (Gs.set i (.x a C dd)) Fs))
    (hGs : Gs.set i .v = G') (hL : L.set i .v = L) :
    PS X (.Try body [.ExceptHandler (some (.Name xn np)) (some nm) (b0 :: suite) p1] [] [] pos) (sD c L G G' (tryF isM i Fb Fs)) := by
  refine ps_imp (ps_try_as (tb := fun W => sD (c.try W G) L G G' Fb) (ts := fun a cls d => fun E σ H => ∃ C dd, cls = .ref C ∧ d = some dd ∧ (∃ n, c.cm n = some C ∧ isM n = some true) ∧ sD c.calm (L.set i (.x a C dd)) (G.set i (.x a C dd)) (Gs.set i (.x a C dd)) Fs E σ H) hs hf hN hi hln hc tk hb ?_) ?_
  · intro a oe cls d pn hz hff
    refine ⟨fun pins s σ H E I ⟨C, dd, hC, hd, hin, q⟩ => ?_⟩
    subst hC hd
    exact (hsu a C dd oe pn hin hz hff).run pins s σ H E I q
  · rintro E σ H ⟨S0, H0, S, r, ok, p⟩
    refine ⟨S0, H0, S, r, ok.cf rfl rfl, ?_⟩
    unfold tryF at p
    cases hF : Fb r with
    | nx r' => rw [hF] at p; exact fun σ' S' H' e => p σ' S' H' (e.cf rfl rfl)
    | rt d => rw [hF] at p; exact p
    | bk r' => rw [hF] at p; exact fun σ' S' H' e => p σ' S' H' (e.cf rfl rfl)
    | ct r' => rw [hF] at p; exact fun σ' S' H' e => p σ' S' H' (e.cf rfl rfl)
    | bad => rw [hF] at p; exact p.elim
    | er r' n ns vs =>
      rw [hF] at p
      intro C dd σ' S' H' fs h1 fw h2 h3 h4 h5
      have e1 : EnvOk (c.try _ G) S0 H0 G S' H' σ' r' := h2 G rfl
      dsimp only at p
      cases hI : isM n with
      | none => rw [hI] at p; exact p.elim
      | some b =>
        rw [hI] at p
        refine ⟨b, hM n C b h1 hI, fun hb1 a ha => ?_, fun hb0 => ?_⟩
        · subst hb1
          refine ⟨C, dd, rfl, rfl, ⟨n, h1, hI⟩, S0, H0, S', _, e1.setX (c' := c.calm) (a := a) rfl rfl i hG h1 h3 h4 h5, ?_⟩
          have p : PostS c S0 H0 L G' (unsetS i (Fs (r'.set i (some (.obj n ns vs))))) E := p
          cases hS : Fs (r'.set i (some (.obj n ns vs))) with
          | nx r2 =>
            rw [hS] at p
            intro σ2 S2 H2 e2
            have := (EnvOk.cf (c' := c) e2 rfl rfl).unset i
            rw [List.set_set, hGs] at this
            exact p _ S2 H2 this
          | rt d => rw [hS] at p; exact p
          | bk r2 =>
            rw [hS] at p
            intro σ2 S2 H2 e2
            have := (EnvOk.cf (c' := c) e2 rfl rfl).unset i
            rw [List.set_set, hL] at this
            exact p _ S2 H2 this
          | ct r2 =>
            rw [hS] at p
            intro σ2 S2 H2 e2
            have := (EnvOk.cf (c' := c) e2 rfl rfl).unset i
            rw [List.set_set, hL] at this
            exact p _ S2 H2 this
          | er _ _ _ _ => rw [hS] at p; exact p.elim
          | bad => rw [hS] at p; exact p.elim
        · subst hb0
          exact p C dd σ' S' H' fs h1 fw (fun g hg => by rw [hge g hg]; exact EnvOk.cf (c' := c) e1 rfl rfl) h3 h4 h5
def lookF (ns : List Str) (vs : List D) (f : Str) : Option D := (ns.zip vs).lookup f
def dXf (i : Nat) (f : Str) : Rho → Res D := fun r => match r[i]? with
  | some (some (.obj _ ns vs)) => match lookF ns vs f with
    | some d => .ok d
    | none => .bad
  | _ => .bad
theorem look_rp {K : PySem.W.Frag} {cm : CM} {S : Hp} {f : Str} {d : D} : ∀ {fs : List (Str × V)} {vs : List D}, RpA K cm S (fs.map (·.2)) vs → lookF (fs.map (·.1)) vs f = some d → ∃ v, fs.lookup f = some v ∧ Rp K cm S v d
  | [], vs, h, q => by cases h; cases q
  | (g, u) :: fs, _, h, q => by
    cases h with | @cons _ _ d' ds hu hr =>
    unfold lookF at q
    rw [List.map_cons, List.zip_cons_cons, List.lookup_cons] at q
    rw [List.lookup_cons]
    by_cases hfg : (f == g) = true
    · rw [hfg] at q ⊢; cases q; exact ⟨u, rfl, hu⟩
    · have : (f == g) = false := by simpa using hfg
      rw [this] at q ⊢
      exact look_rp hr q
theorem de_xf {a C dd : Addr} {oe : Obj} {pn : List (Addr × Obj)} {i : Nat} {nm f : Str} {pn' : Pos} (T : XfC X.K C) (hno : PySem.W.findIn X.K (.ref C) f = some none) (k : kd G i = .x a C dd)
    (hz : Zc (.ref C) (some dd) oe) (hf : ∃ vs, oe.data = .fields vs) (he : PE (X.suite a ((a, oe) :: pn)) (.Name nm pn') (tVar i)) (hb : attributeBase (.Name nm pn') f X.env (eval (.Name nm pn') X.env) = eval (.Name nm pn') X.env := by rfl) :
    PE (X.suite a ((a, oe) :: pn)) (.Attribute (.Name nm pn') f pos) (tV c G (dXf i f)) := pe_imp (pe_xf T hno hz hf he hb) fun σ H Q ⟨S0, H0, S, r, ok, p⟩ => by
  unfold dXf at p
  split at p
  · rename_i n ns vs hr
    obtain ⟨v, h1, h2⟩ := ok.slot i _ hr
    rw [k] at h2
    obtain ⟨rfl, n', ns', ds', fs, z1, z2, z3, z4, z5⟩ := h2
    cases z1
    split at p
    · rename_i d hd
      rw [z4] at hd
      obtain ⟨u, q1, q2⟩ := look_rp z5 hd
      exact ⟨.ref a, h1, rfl, rfl, dd, fs, u, rfl, ok.ex _ _ z3, q1, p.here ok.ex q2⟩
    · exact p.elim
  · exact p.elim
/-- isinstance(e, c), e the exception that the suite holds -/
def rIsX (K : PySem.W.Frag) (C a dd : Addr) : List V → Hp → VK → Prop := fun xs H Q => ∃ (c : V) (cv : Value) (b : Bool) (fs : List (Str × V)), xs = [.ref a, c] ∧ (∀ u, RelV c u → u = cv) ∧ H dd = some (.xd fs) ∧ PySem.W.kitOne K (.ref C) cv = some b ∧ Q (.bl b) H
theorem call_isX {a C dd : Addr} {oe : Obj} {pn : List (Addr × Obj)} (T : ExcC X.K C) (hz : Zc (.ref C) (some dd) oe) (hf : ∃ vs, oe.data = .fields vs) : CallR (X.suite a ((a, oe) :: pn)) (.builtin "isinstance") (rIsX X.K C a dd) := by
  intro pins s σ H xs us Q I r h
  obtain ⟨cc, cv, b, fs, rfl, hcv, hdd, hk, q⟩ := h
  match us, r with
  | [u1, u2], .cons rx (.cons rt .nil) =>
    cases rx
    have ec := hcv _ rt
    subst ec
    have hpin := (I.pin (a, oe) (List.mem_append_left _ List.mem_cons_self)).1
    obtain ⟨vs, hv⟩ := hf
    have hx : ObjOk X.prog X.w H s.heap dd (.xd fs) := I.hok dd _ hdd
    obtain ⟨mA, hns, _⟩ := hx
    obtain ⟨od, ho, _⟩ := lookIn_ns hns
    have J : PySem.W.InstAt s.heap a oe C (some od) := ⟨hpin, hz.1, by unfold PySem.W.notCls; rw [hv], by rw [hz.2]; exact ho⟩
    have hcl : (PySem.W.clsIn X.K C).isSome = true := by
      have h1 := T.hd
      unfold PySem.W.hasDictIn at h1
      cases hc : PySem.W.clsIn X.K C with
      | none => rw [hc] at h1; cases h1
      | some _ => rfl
    exact PySem.W.kia_one (PySem.W.kitx_exc hcl T.hg T.hk T.hs T.ha T.hn T.ht T.hm) I.kIn J hk (fun z => nomatch z) fun tk => ⟨.bl b, H, I.kept (t' := tk) fun _ _ z => z, rfl, q⟩
/-- isM: which of the classes that are caught are of this class -/
def dIsX (isM : Str → Option Bool) (i : Nat) : Rho → Res D := fun r => match r[i]? with
  | some (some (.obj n _ _)) => match isM n with
    | some b => .ok (.bl b)
    | none => .bad
  | _ => .bad
theorem de_isX {a C dd : Addr} {oe : Obj} {pn : List (Addr × Obj)} {i : Nat} {nm xc : Str} {pn' pc : Pos} {isM : Str → Option Bool} {v : V} {cv : Value} (k : kd G i = .x a C dd) (T : ExcC X.K C) (hz : Zc (.ref C) (some dd) oe) (hf : ∃ vs, oe.data = .fields vs)
    (hcv : ∀ u, RelV v u → u = cv) (hM : ∀ n b, c.cm n = some C → isM n = some b → PySem.W.kitOne X.K (.ref C) cv = some b)
    (hm : X.mg "isinstance" = none) (hg : Gl X "isinstance") (hv : PE (X.suite a ((a, oe) :: pn)) (.Name nm pn') (tVar i)) (hT : PE (X.suite a ((a, oe) :: pn)) (.Name xc pc) (tC v))
    (hs1 : starEach [.Name nm pn', .Name xc pc] X.env = (false, eval (.Name nm pn') X.env) :: starEach [.Name xc pc] X.env := by rfl) (hs2 : starEach [.Name xc pc] X.env = (false, eval (.Name xc pc) X.env) :: starEach [] X.env := by rfl) (hpl : (backTo pos (starEach [.Name xc pc] X.env)).any (·.1) = false := by rfl) :
    PE (X.suite a ((a, oe) :: pn)) (.Call (.Name "isinstance" p) [.Name nm pn', .Name xc pc] [] pos) (tV c G (dIsX isM i)) := by
  refine pe_imp (pe_callB (call_isX T hz hf) hg hm (by decide +kernel) (pa_cons hv (pa_cons hT pa_nil hs2) hs1) (he := hs1) (hpl := hpl)) fun σ H Q ⟨S0, H0, S, r, ok, p⟩ => ?_
  unfold dIsX at p
  split at p
  · rename_i n ns vs hr
    obtain ⟨v', h1, h2⟩ := ok.slot i _ hr
    rw [k] at h2
    obtain ⟨rfl, n', ns', ds', fs, z1, z2, z3, z4, z5⟩ := h2
    cases z1
    split at p
    · rename_i b hb
      exact ⟨.ref a, h1, v, cv, b, fs, rfl, hcv, ok.ex _ _ z3, hM n b z2 hb, p.here ok.ex (.bl _)⟩
    · exact p.elim
  · exact p.elim
end
end Dx
end S_DxG
section S_DxT
set_option Elab.async false
set_option linter.all false
set_option maxRecDepth 100000
set_option maxHeartbeats 2000000
namespace Dx
open PySem L2
theorem gok0 {K : PySem.W.Frag} {cm : CM} {rm : Bool} {E : XK} {G : List Ow} : Gok (cfE K cm rm E) G := fun _ h => nomatch h
theorem gokC {c : Cf} {G : List Ow} : Gok c.calm G := fun _ h => nomatch h
theorem gokT {c : Cf} {W : WX} {G : List Ow} : Gok (c.try W G) G := fun _ h => (Option.some.inj h).symm
theorem fnok_bad {P : Program} {w : World} {K : PySem.W.Frag} {mg : Str → Option Value} {base : Heap} {CX : CXT} {k : Nat} {f : Addr} {fd : FuncData} {ps : List Str} {cm : CM} {ms : List Bool} {rm : Bool} : FnOk P w K mg base CX k f fd ps (spD K cm ms rm fun _ => .bad) :=
  ⟨fun _ _ _ _ ⟨_, _, _, _, h⟩ => h.elim, fun _ _ _ _ _ _ _ _ _ _ _ _ _ ⟨_, _, _, _, h⟩ => h.elim⟩
theorem ints_rp {K : PySem.W.Frag} {cm : CM} {S : Hp} : ∀ ns : List Int, RpA K cm S (ns.map V.int) (ns.map D.int)
  | [] => .nil
  | n :: ns => .cons (.int n) (ints_rp ns)
theorem law_sp {K : PySem.W.Frag} {cm : CM} {F : List D → Res D} {ns : List Int} {H : Hp} {a : Addr} {Q : VK} {E : XK} (h : F [.fz (ns.map D.int)] = .ok (.bl true)) (hS : SqL K H a (ns.map V.int)) (k : ∀ H', Q (.bl true) H') : spD K cm [false] false F [.ref a] H Q E :=
  ⟨H, [.fz (ns.map D.int)], Ex.refl, ⟨.fz hS (ints_rp ns), trivial⟩, by
    rw [h]
    intro S' H' w b hb
    cases hb
    exact k H'⟩
theorem cx_never {P : Program} {w : World} {outer : List Env} {H : Hp} {s s' : Shared} {e : Value} (h : L2.CX P w outer H s (fun _ _ _ => False) e s') : False := by
  obtain ⟨_, _, _, _, _, _, _, _, _, _, _, _, hf⟩ := h
  exact hf
section
variable {X : Cx} {c : Cf} {L G G' : List Ow} {f f1 f2 : Rho → Res D} {o e : Expr} {pos apos : Pos}
def asS : D → Res Str
  | .str s => .ok s
  | _ => .bad
def dStr (g : D → D → Res D) (f1 f2 : Rho → Res D) : Rho → Res D := fun r => (f1 r).bind fun x => (asS x).bind fun _ => (f2 r).bind fun y => g x y
def strsD (zs : List Str) : List D := zs.map .str
noncomputable def splitD : D → D → Res D
  | .str a, .str b => guard ((b.length == 0) = false ∧ a.length + 2 ≤ sizeLine) (.ok (.lst (strsD (Txt.split a b))))
  | _, _ => .bad
def startD : D → D → Res D
  | .str a, .str b => .ok (.bl (Txt.startswith a b))
  | _, _ => .bad
def endD : D → D → Res D
  | .str a, .str b => .ok (.bl (Txt.endswith a b))
  | _, _ => .bad
noncomputable def ordX : D → Res D
  | .str x => guard (x.length = 1) (.ok (.int (x.cps.getD 0 0 : Nat)))
  | _ => .bad
noncomputable def fmtD : D → Res D
  | .str y => guard (y.length ≤ sizeLine) (.ok (.str y))
  | .int i => guard (i.natAbs.log2 < 1920) (.ok (.str (toString i)))
  | _ => .bad
def dJnil : Str → Rho → Res D := fun acc _ => .ok (.str acc)
noncomputable def dJcons (f : Rho → Res D) (g : Str → Rho → Res D) : Str → Rho → Res D := fun acc r => (f r).bind fun d => (asS d).bind fun y => guard ((acc ++ y).length ≤ sizeLine) (g (acc ++ y) r)
def dJoin (g : Str → Rho → Res D) : Rho → Res D := g Str.empty
noncomputable def truB : D → Res Bool
  | .non => .ok false
  | .bl b => .ok b
  | .int i => .ok (i != 0)
  | .str y => guard (y.length ≤ sizeLine) (.ok ((y.length : Int) != 0))
  | .lst ds => .ok (!ds.isEmpty)
  | .fz ds => .ok (!ds.isEmpty)
  | .tup ds => .ok (!ds.isEmpty)
  | _ => .bad
noncomputable def dTru (f : Rho → Res D) : Rho → Res Bool := fun r => (f r).bind truB
theorem RpA.empty {K : PySem.W.Frag} {cm : CM} {S : Hp} {vs : List V} {ds : List D} (h : RpA K cm S vs ds) : (!ds.isEmpty) = !vs.isEmpty := by cases h <;> rfl
def augF (i : Nat) (g : D → D → Res D) (f : Rho → Res D) : Rho → SR := fun r => liftS r (dVar i r) fun x => liftS r (f r) fun y => liftS r (g x y) fun z => .nx (r.set i (some z))
end
end Dx
end S_DxT
section S_DxS
set_option Elab.async false
set_option linter.all false
set_option maxRecDepth 100000
set_option maxHeartbeats 2000000
namespace Dx
open PySem L2
/-- new own lists that stand in each other -/
def mG (c : Cf) : Md V D := fun H S' H' v d => ∃ k M A, d = .st k M ∧ A.Nodup ∧ A.length = M.length ∧ (∃ a, A[k]? = some a ∧ v = .ref a) ∧ (∀ a ∈ A, H a = none ∧ S' a = none) ∧
  ∀ (n : Nat) row, M[n]? = some row → ∃ a xs, A[n]? = some a ∧ H' a = some (.lst xs) ∧ RmA c.K c.cm A S' xs row
instance {c : Cf} : Anti (mG c) := ⟨fun e ⟨k, M, A, h1, h2, h3, h4, h5, h6⟩ => ⟨k, M, A, h1, h2, h3, h4, fun a ha => ⟨e.nn (h5 a ha).1, (h5 a ha).2⟩, h6⟩⟩
section
variable {X : Cx} {c : Cf} {L G G' : List Ow} {σ : St} {S0 H0 S H S' H' : Hp} {r : Rho}
variable {e : Expr} {pos : Pos} {f : Rho → Res D}
def isOwn : D → Bool
  | .own _ => true
  | .st _ _ => true
  | _ => false
theorem RmA.plain {A : List Addr} {xs : List V} {row : List D} (h : RmA c.K c.cm A S xs row) (hp : row.all (fun d => !isOwn d) = true) : RpA c.K c.cm S xs row := by
  obtain ⟨hl, h⟩ := h
  induction row generalizing xs with
  | nil =>
    cases xs with
    | nil => exact .nil
    | cons _ _ => cases hl
  | cons d row ih =>
    cases xs with
    | nil => cases hl
    | cons v xs =>
      rw [List.all_cons, Bool.and_eq_true] at hp
      refine .cons ?_ (ih hp.2 (by simpa using hl) fun i v d hv hd => h (i + 1) v d (by simpa using hv) (by simpa using hd))
      rcases h 0 v d rfl rfl with z | ⟨k, a, rfl, _⟩
      · exact z
      · cases hp.1
theorem RmA.atI {A : List Addr} {xs : List V} {row : List D} {j : Int} {d : D} (h : RmA c.K c.cm A S xs row) (q : L2.atI row j = some d) : ∃ v, L2.atI xs j = some v ∧ RmV c.K c.cm A S v d := by
  unfold L2.atI at q ⊢
  rw [h.1]
  cases hj : ixN row.length j with
  | none => rw [hj] at q; cases q
  | some n =>
    rw [hj] at q
    have q : row[n]? = some d := q
    have hlt : n < xs.length := by rw [h.1]; exact (List.getElem?_eq_some_iff.mp q).1
    exact ⟨xs[n], List.getElem?_eq_getElem hlt, h.2 n _ d (List.getElem?_eq_getElem hlt) q⟩
theorem RmA.set {A : List Addr} {xs : List V} {row : List D} {v : V} {d : D} (h : RmA c.K c.cm A S xs row) (hv : Rp c.K c.cm S v d) (n : Nat) : RmA c.K c.cm A S (xs.set n v) (row.set n d) := by
  refine ⟨by rw [List.length_set, List.length_set]; exact h.1, fun i u e hu he => ?_⟩
  rw [List.getElem?_set] at hu he
  split at hu
  · rename_i hni
    rw [if_pos hni] at he
    split at hu
    · cases hu
      split at he
      · cases he; exact .inl hv
      · cases he
    · cases hu
  · rename_i hni
    rw [if_neg hni] at he
    exact h.2 i u e hu he
end
end Dx
end S_DxS
section S_DxU
set_option Elab.async false
set_option linter.all false
set_option maxRecDepth 100000
set_option maxHeartbeats 2000000
namespace Dx
open PySem L2
def optL (g : D → Option D) : List D → Option (List D)
  | [] => some []
  | d :: ds => match g d, optL g ds with
    | some e, some es => some (e :: es)
    | _, _ => none
def derefD : Nat → List (List D) → D → Option D
  | _, _, .st _ _ => none
  | 0, _, .own _ => none
  | n + 1, M, .own k => match M[k]? with
    | some row => match optL (derefD n M) row with
      | some ds => some (.lst ds)
      | none => none
    | none => none
  | _, _, d => some d
section
variable {X : Cx} {c : Cf} {L G G' : List Ow} {σ : St} {S0 H0 S H S' H' : Hp} {r : Rho}
/-- all the own lists of slot i become values; the slots ws, that hold some of them, are given up -/
def pubF (n i : Nat) (ws : List Nat) : Rho → SR := fun r => match r[i]? with
  | some (some (.st k M)) => match derefD n M (.own k) with
    | some d => .nx ((wipeR r ws).set i (some d))
    | none => .bad
  | _ => .bad
end
end Dx
end S_DxU
section S_DxV
set_option Elab.async false
set_option linter.all false
set_option maxRecDepth 100000
set_option maxHeartbeats 2000000
namespace Dx
open PySem L2
/-- each item with its number -/
def numd : Nat → List D → List D
  | _, [] => []
  | n, d :: ds => .tup [.int (n : Int), d] :: numd (n + 1) ds
section
variable {X : Cx} {c : Cf} {G : List Ow} {f : Rho → Res D} {e : Expr} {pos : Pos}
def itemsF (d : D) : Res (List D) := match d with
  | .lst ds => .ok ds
  | .fz ds => .ok ds
  | _ => .bad
def enumL (d : D) : Res (List D) := (itemsF d).bind fun ds => .ok (numd 0 ds)
def enumT (d : D) : Res (List D) := (itemsT d).bind fun ds => .ok (numd 0 ds)
end
end Dx
end S_DxV
section S_DxW
set_option Elab.async false
set_option linter.all false
set_option maxRecDepth 100000
set_option maxHeartbeats 2000000
namespace Dx
open PySem L2 PyProof.Rows
end Dx
end S_DxW
section S_DxX
set_option Elab.async false
set_option linter.all false
set_option maxRecDepth 100000
set_option maxHeartbeats 2000000
namespace Dx
open PySem L2
section
variable {X : Cx} {c : Cf} {L G G' : List Ow} {f f1 f2 : Rho → Res D} {a b e : Expr} {pos : Pos} {tg : Expr}
noncomputable def powD : D → D → Res D
  | .int i, .int j => guard (0 ≤ j ∧ j ≤ 1000000 ∧ i.natAbs < 18446744073709551616) (.ok (.int (i ^ j.toNat)))
  | _, _ => .bad
theorem os_pow : OpS c (mV c) (rI CPow fun i j => .int (i ^ j.toNat)) powD := by
  intro σ S H x y d e Q ex hx hy p
  unfold powD at p
  split at p
  · obtain ⟨h, p⟩ := p.gd
    cases hx.int
    cases hy.int
    exact ⟨_, _, rfl, rfl, ⟨h.1, h.2.1, by have := h.2.2; omega⟩, p.here ex (.int _)⟩
  · exact p.elim
/-- sum of a list of ints -/
def allInt : List D → Option (List Int)
  | [] => some []
  | .int i :: ds => match allInt ds with
    | some is => some (i :: is)
    | none => none
  | _ => none
def sumD : D → Res D
  | .lst ds => match allInt ds with
    | some is => .ok (.int is.sum)
    | none => .bad
  | _ => .bad
end
end Dx
end S_DxX
section S_DxY
set_option Elab.async false
set_option linter.all false
set_option maxRecDepth 100000
set_option maxHeartbeats 2000000
namespace Dx
open PySem L2
section
variable {X : Cx} {c : Cf} {L G G' : List Ow} {f f1 : Rho → Res D} {e o : Expr} {es : List Expr} {pos apos p : Pos} {fs : Rho → Res (List D)}
/-- of an object of the class n, its field fl -/
def fldD (n fl : Str) : D → Res D
  | .obj c ns vs => if c = n then (match lookF ns vs fl with
    | some d => .ok d
    | none => .bad) else .bad
  | _ => .bad
theorem de_fld {n fl : Str} {C : Addr} (hcn : c.cm n = some C) (cl : Cls X.K C) (na : NoAttr X.K C fl) (he : PE X e (tR c G f)) (hb : attributeBase e fl X.env (eval e X.env) = eval e X.env := by rfl) :
    PE X (.Attribute e fl pos) (tV c G (dUn (fldD n fl) f)) := pe_imp (pe_fld he hb) fun σ H Q ⟨S0, H0, S, r, ok, p⟩ => rd_seq ok p fun d v S1 H1 w1 o1 m1 p1 => by
  cases d with
  | obj c' ns vs =>
    unfold fldD at p1
    dsimp only at p1
    split at p1
    · rename_i hc
      subst hc
      split at p1
      · rename_i d' hd
        obtain ⟨q, C', dx, fs, rfl, h1, h2, rfl, h4⟩ := RpB.obj m1 o1.ex
        rw [hcn] at h1; cases h1
        obtain ⟨v', hv, hr⟩ := look_rp h4 hd
        exact ⟨q, C, dx, fs, v', rfl, h2, cl, na, hv, p1.go o1.ex _ hr⟩
      · exact p1.elim
    · exact p1.elim
  | _ => exact p1.elim
/-- a constant of the class, by the class -/
theorem de_cval {C : Addr} {mc u : Value} {v : V} {d : D} {n fl : Str} (hg : Gl X n) (hm : X.mg n = some (.ref C)) (r : ClX.CRead X.K C mc) (kv : ClX.CVal X.K C mc fl v u) (hd : ∀ S, Rp c.K c.cm S v d)
    (hdb : (n == ("__debug__" : Str)) = false := by decide) (hb : attributeBase (.Name n p) fl X.env (eval (.Name n p) X.env) = eval (.Name n p) X.env := by rfl) : PE X (.Attribute (.Name n p) fl pos) (tV c G (dC d)) :=
  pe_imp (ClX.pe_cval (pe_glob (v := .ref C) hg hm rfl hdb) hb) fun σ H Q ⟨S0, H0, S, r', ok, p⟩ => ⟨C, mc, v, u, rfl, r, kv, p.here ok.ex (hd S)⟩
/-- the own object in slot i gets a field -/
def putN (fl : Str) (d : D) : List Str → List D → List Str × List D
  | n :: ns, v :: vs => if n = fl then (n :: ns, d :: vs) else let z := putN fl d ns vs; (n :: z.1, v :: z.2)
  | ns, vs => (ns ++ [fl], vs ++ [d])
theorem putN_rp {K : PySem.W.Frag} {cm : CM} {S : Hp} {fl : Str} {d : D} {v : V} (hv : Rp K cm S v d) : ∀ {fs : List (Str × V)} {vs : List D}, RpA K cm S (fs.map (·.2)) vs →
    (putN fl d (fs.map (·.1)) vs).1 = (putF fl v fs).map (·.1) ∧ RpA K cm S ((putF fl v fs).map (·.2)) (putN fl d (fs.map (·.1)) vs).2
  | [], vs, h => by
    cases h
    refine ⟨rfl, ?_⟩
    show RpA K cm S [v] [d]
    exact .one hv
  | (n, u) :: fs, _, h => by
    cases h with | @cons _ _ d' ds' h1 h2 =>
    obtain ⟨z1, z2⟩ := putN_rp hv h2
    by_cases hn : n = fl
    · subst hn
      have e1 : putF n v ((n, u) :: fs) = (n, v) :: fs := by unfold putF; simp
      have e2 : putN n d (((n, u) :: fs).map (·.1)) (d' :: ds') = (n :: fs.map (·.1), d :: ds') := by
        show putN n d (n :: fs.map (·.1)) (d' :: ds') = _
        unfold putN; simp
      rw [e1, e2]
      exact ⟨rfl, .cons hv h2⟩
    · have e1 : putF fl v ((n, u) :: fs) = (n, u) :: putF fl v fs := by
        conv => lhs; unfold putF
        simp [hn, Ne.symm hn]
      have e2 : putN fl d (((n, u) :: fs).map (·.1)) (d' :: ds') = (n :: (putN fl d (fs.map (·.1)) ds').1, d' :: (putN fl d (fs.map (·.1)) ds').2) := by
        show putN fl d (n :: fs.map (·.1)) (d' :: ds') = _
        conv => lhs; unfold putN
        simp [hn]
      rw [e1, e2]
      exact ⟨by simp [z1], .cons h1 z2⟩
def fstF (i : Nat) (n fl : Str) (f : Rho → Res D) : Rho → SR := fun r => liftS r (f r) fun d => match r[i]? with
  | some (some (.obj c ns vs)) => if c = n ∧ ns.length < 1000 then .nx (r.set i (some (.obj c (putN fl d ns vs).1 (putN fl d ns vs).2))) else .bad
  | _ => .bad
theorem ds_fst (i : Nat) {n fl x : Str} {C : Addr} {pn pos' : Pos} (hg : Gok c G) (hcn : c.cm n = some C) (cl : Cls X.K C) (na : NoAttr X.K C fl) (k : isO (kd G i)) (ho : PE X (.Name x pn) (tVar i)) (he : PE X e (tV c G f))
    (hs : swapsWith e (some (.Attribute (.Name x pn) fl pos')) pos.line X.env = pure false := by rfl) : PS X (.Assign [.Attribute (.Name x pn) fl pos'] e pos) (sD c L G G (fstF i n fl f)) :=
  ps_imp (ps_fld ho he hs) fun E σ H ⟨S0, H0, S, r, ok, p⟩ => st_seq hg ok p fun d v S1 H1 w1 o1 m1 p1 => by
    split at p1
    · rename_i c' ns vs hr
      split at p1
      · rename_i hc
        obtain ⟨rfl, hl⟩ := hc
        obtain ⟨q, ho', s1, s2, s3, s4, s5⟩ := o1.ownI k hr
        cases s5 with | @obj C' dx _ fs _ _ h1 h2 h3 =>
        rw [hcn] at h1; cases h1
        subst h2
        obtain ⟨z1, z2⟩ := putN_rp (fl := fl) m1 h3
        refine ⟨.ref q, s1, q, C, dx, fs, rfl, s2, cl, na, by simpa using hl, p1 σ S1 _ ?_⟩
        exact o1.mutI k hr s1 (.obj hcn z1 z2)
      · exact p1.elim
    · exact p1.elim
variable {k : Nat} {fa : Addr} {fd : FuncData} {ps : List Str} {ms : List Bool} {rm : Bool} {F : List D → Res D}
def isObj (n m : Str) : D → Res Unit
  | .obj c ns _ => if c = n ∧ m ∉ ns then .ok () else .bad
  | _ => .bad
def dMeth (n m : Str) (F : List D → Res D) (f1 : Rho → Res D) (fs : Rho → Res (List D)) : Rho → Res D := fun r => (f1 r).bind fun x => (isObj n m x).bind fun _ => (fs r).bind fun ds => F (x :: ds)
theorem lookup_none {fs : List (Str × V)} {m : Str} (h : m ∉ fs.map (·.1)) : fs.lookup m = none := by
  induction fs with
  | nil => rfl
  | cons a fs ih =>
    obtain ⟨n, v⟩ := a
    simp only [List.map_cons, List.mem_cons, not_or] at h
    rw [List.lookup_cons]
    have : (m == n) = false := by simpa using h.1
    rw [this]
    exact ih h.2
theorem of_isObj {σ : St} {S H : Hp} {n m : Str} {d : D} {v : V} {g : Unit → Res D} {kk : D → Hp → Hp → Prop} (ex : Ex S H) (hv : RpB c.K c.cm S H v d) (p : PostG c σ S H ((isObj n m d).bind g) kk) :
    ∃ a C dx fs, v = .ref a ∧ c.cm n = some C ∧ H a = some (.ins C dx fs) ∧ fs.lookup m = none ∧ PostG c σ S H (g ()) kk := by
  cases d with
  | obj c' ns vs =>
    unfold isObj at p
    dsimp only at p
    split at p
    · rename_i hc
      obtain ⟨rfl, hm⟩ := hc
      obtain ⟨q, C', dx, fs, rfl, h1, h2, rfl, h4⟩ := RpB.obj hv ex
      exact ⟨q, C', dx, fs, rfl, h1, h2, lookup_none hm, p⟩
    · exact p.elim
  | _ => exact p.elim
/-- what an __init__ promises: from its arguments' data to the new object's data -/
def spI (K : PySem.W.Frag) (cm : CM) (C : Addr) (ms : List Bool) (F : List D → Res D) : Sp := fun vs H Q E => ∃ x dx H1 S us ds, vs = .ref x :: us ∧ H1 x = none ∧ H1 dx = none ∧ dx ≠ x ∧ H = upd (upd H1 dx (.own x)) x (.ins C dx []) ∧ Ex S H1 ∧
  RpM ⟨K, cm, fun _ _ _ _ => False, none, true⟩ S H1 ms us ds ∧
  PostG ⟨K, cm, fun cls d _ H => E cls d H, none, true⟩ [] S H1 (F ds) fun a S' H' => (∃ ho, S' x = none ∧ H' x = some ho ∧ RpO K cm S' ho a) → Q .non H'
theorem make_rd {E : XK} {σ : St} {S H : Hp} {vs : List V} {ds : List D} {Q : VK} {C x dx : Addr} (hE : ∀ cls d H, c.W cls d σ H → E cls d H) (ex : Ex S H) (m : RpM c S H ms vs ds) (hx : H x = none) (hdx : H dx = none) (hne : dx ≠ x)
    (q : PostG c σ S H (F ds) fun a S' H' => ∀ b, mO c H S' H' b a → Q b H') : spI c.K c.cm C ms F (.ref x :: vs) (upd (upd H dx (.own x)) x (.ins C dx [])) (fun v H2 => v = .non ∧ Q (.ref x) H2) E := by
  refine ⟨x, dx, H, S, vs, ds, rfl, hx, hdx, hne, rfl, ex, RpM.cf (c := c) (c' := ⟨c.K, c.cm, fun _ _ _ _ => False, none, true⟩) rfl rfl m, ?_⟩
  cases hF : F ds with
  | ok a =>
    rw [hF] at q
    intro S' H' w ⟨ho, h1, h2, h3⟩
    exact ⟨rfl, q S' H' w _ ⟨x, ho, rfl, hx, h1, h2, h3⟩⟩
  | err n ns vs => rw [hF] at q; exact fun C dd S' H' fs h1 w h2 h3 h4 => hE _ _ _ (q C dd S' H' fs h1 w h2 h3 h4)
  | bad => rw [hF] at q; exact q.elim
end
def startI (n : Nat) (cls : Str) (ds : List D) : Rho := some (.obj cls [] []) :: ds.map some ++ List.replicate (n - (ds.length + 1)) none
def GI (x : Addr) (ms : List Bool) (n : Nat) : List Ow := .i x :: ms.map (fun m => if m then .b else .v) ++ List.replicate (n - (ms.length + 1)) .v
def runI (n : Nat) (cls : Str) (Fb : Rho → SR) (ds : List D) : Res D := match Fb (startI n cls ds) with
  | .nx r => (match r[0]? with
    | some (some d) => .ok d
    | _ => .bad)
  | .er _ n ns vs => .err n ns vs
  | _ => .bad
theorem kd_GI_succ {x : Addr} {ms : List Bool} {n i : Nat} : kd (GI x ms n) (i + 1) = kd (G0 ms (n - 1)) i := by
  unfold kd GI G0
  rw [List.getD_eq_getElem?_getD, List.getD_eq_getElem?_getD]
  simp [Nat.sub_sub, Nat.add_comm]
theorem startI_succ {n i : Nat} {cls : Str} {ds : List D} : (startI n cls ds)[i + 1]? = (startR (n - 1) ds)[i]? := by
  unfold startI startR
  simp [Nat.sub_sub, Nat.add_comm]
section
variable {P : Program} {w : World} {K : PySem.W.Frag} {mg : Str → Option Value} {base : Heap} {cm : CM}
theorem env_startI {c : Cf} {N : List Str} {S H1 : Hp} {us : List V} {ds : List D} {ms : List Bool} {x dx C : Addr} {n : Str} (hcn : c.cm n = some C) (ex : Ex S H1) (m : RpM c S H1 ms us ds) (hn : ms.length + 1 ≤ N.length) (hx : H1 x = none) (hdx : H1 dx = none) (hne : dx ≠ x) :
    EnvOk c S H1 (GI x ms N.length) S (upd (upd H1 dx (.own x)) x (.ins C dx [])) (L2.start N (.ref x :: us)) (startI N.length n ds) := by
  have hl := m.len
  have hx1 : (upd H1 dx (.own x)) x = none := by rw [upd_ne (Ne.symm hne)]; exact hx
  have e1 : Ex H1 (upd (upd H1 dx (.own x)) x (.ins C dx [])) := (Ex.new hdx).trans (Ex.new hx1)
  have fw : Fwd S H1 S (upd (upd H1 dx (.own x)) x (.ins C dx [])) := ⟨Ex.refl, e1, ex.trans e1, fun a o h n => by rw [n] at h; cases h⟩
  refine ⟨fw, by unfold L2.start startI; simp [hl.1, hl.2], fun i d h => ?_, fun i j d e p hi hj ki kj si sj => ?_, ⟨[], .nil fun i d hi => ?_⟩⟩
  · cases i with
    | zero =>
      have h : some (some (D.obj n [] [])) = some (some d) := h
      cases h
      refine ⟨.ref x, by unfold L2.start; simp, ?_⟩
      show SlotOk c H1 S _ (.i x) (.ref x) _
      exact ⟨rfl, x, _, rfl, upd_same, ex.nn hx, hx, .obj hcn rfl .nil⟩
    | succ i =>
      rw [startI_succ] at h
      have hd := startR_some h
      obtain ⟨v, mm, h1, h2, h3⟩ := m.get hd
      refine ⟨v, ?_, ?_⟩
      · unfold L2.start
        have hlt : i < us.length := (List.getElem?_eq_some_iff.mp h1).1
        rw [List.getElem?_append, if_pos (by simpa using hlt)]
        simp [h1]
      · rw [kd_GI_succ, kd_G0_at h2]
        cases mm with
        | true => exact h3
        | false => exact h3
  · cases i with
    | succ i => rw [kd_GI_succ] at ki; exact absurd ki kd_G0
    | zero => cases j with
      | zero => rfl
      | succ j => rw [kd_GI_succ] at kj; exact absurd kj kd_G0
  · cases i with
    | zero => exact ⟨fun _ h => (by cases h), fun h => (by cases h)⟩
    | succ i => rw [kd_GI_succ]; exact kd_G0_sw
/-- THE RULE for an __init__ -/
theorem dokI {x qual : Str} {st : Stmt} {f C : Addr} {fd : FuncData} {N ps : List Str} {k : Nat} {ms : List Bool} {n : Str} {Fb : Rho → SR} (F : Fun K x qual st f fd) (S : FnScope N ps (defScope st)) (hcn : cm n = some C) (hm : ms.length + 1 = ps.length) (hn : ps.length ≤ N.length)
    {G' : Addr → List Ow} (hG : ∀ a, kd (G' a) 0 = .i a)
    (hb : ∀ (cdv : Value) (A : Around) (outer : List Env) (s : Shared) (H : Hp) (E : XK) (a : Addr), Room k (A.deeper (PyProof.Rows.envOfC qual (defScope st) s.heap.objs.size f cdv)) →
      PSs (cxOf (L2.CX P w) P w K mg base N qual (defScope st) f cdv A outer s H E) (defBody st) (sD (cfE K cm false E) [] (GI a ms N.length) (G' a) Fb)) :
    FnOk P w K mg base (L2.CX P w) (k + 1) f fd ps (spI K cm C ms (runI N.length n Fb)) := by
  refine F.okX S (fun vs H Q E h => ?_) (fun cdv A outer s H vs Q E hr h => ?_)
  · obtain ⟨x, dx, H1, S, us, ds, rfl, _, _, _, _, _, m, _⟩ := h
    rw [List.length_cons, m.len.1, hm]
  · obtain ⟨x, dx, H1, S, us, ds, rfl, hx, hdx, hne, rfl, ex, m, q⟩ := h
    refine ⟨_, hb cdv A outer s _ E x hr, S, H1, S, startI N.length n ds, env_startI (c := cfE K cm false E) hcn ex (RpM.cf (c := ⟨K, cm, fun _ _ _ _ => False, none, true⟩) (c' := cfE K cm false E) rfl rfl m) (by omega) hx hdx hne, ?_⟩
    unfold runI at q
    cases hF : Fb (startI N.length n ds) with
    | rt d => rw [hF] at q; exact q.elim
    | nx r =>
      rw [hF] at q
      dsimp only at q
      intro σ' S' H' ok
      split at q
      · rename_i d hd
        obtain ⟨v, h1, h2⟩ := ok.slot 0 d hd
        rw [hG x] at h2
        obtain ⟨rfl, p, ho, e1, e2, e3, e4, e5⟩ := h2
        cases e1
        exact q S' H' ok.fwd ⟨ho, e3, e2, e5⟩
      · exact q.elim
    | er r n ns vs =>
      rw [hF] at q
      exact fun C dd σ' S' H' fs h1 fw _ h2 h3 h4 => q C dd S' H' fs h1 fw h2 h3 h4
    | bk r => rw [hF] at q; exact q.elim
    | ct r => rw [hF] at q; exact q.elim
    | bad => rw [hF] at q; exact q.elim
end
end Dx
end S_DxY
section S_DxZ
set_option Elab.async false
set_option linter.all false
set_option maxRecDepth 100000
set_option maxHeartbeats 2000000
namespace Dx
open PySem L2
section
variable {X : Cx} {c : Cf} {L G G' : List Ow} {f f1 f2 : Rho → Res D} {e e2 : Expr} {pos apos p : Pos} {fs : Rho → Res (List D)}
def enumS (d : D) : Res (List D) := (itemsS d).bind fun ds => .ok (numd 0 ds)
def pairs : List D → List D → List D
  | a :: as, b :: bs => .tup [a, b] :: pairs as bs
  | _, _ => []
def zipS : List D → Res (List D)
  | [.str x, .str y] => .ok (pairs (signs x) (signs y))
  | _ => .bad
def repS (x : Str) (n : Int) : Str := ⟨(List.replicate n.toNat x.cps.toList).flatten.toArray⟩
def rMulS : R2 := fun x y H Q => ∃ i j, x = .str i ∧ y = .int j ∧ j < 2 ^ 60 ∧ -(2 ^ 60) < j ∧ i.length * j.toNat ≤ sizeLine ∧ Q (.str (repS i j)) H
theorem repS_fold (x : Str) (n : Nat) (a : Array Nat) : (List.replicate n x.cps).foldl (· ++ ·) a = a ++ (List.replicate n x.cps.toList).flatten.toArray := by
  induction n generalizing a with
  | zero => simp
  | succ n ih => rw [List.replicate_succ, List.foldl_cons, ih, List.replicate_succ, List.flatten_cons]; apply Array.toList_inj.mp; simp
theorem op_mulS : OpR X (binaryOp .Mult) rMulS := by
  intro pins s σ H x y v u Q I rx ry h
  obtain ⟨i, j, rfl, rfl, h1, h2, hz, q⟩ := h
  obtain ⟨t, rfl⟩ := rx
  obtain ⟨t', rfl⟩ := ry
  have hz2 : (sizeLine : Nat) < 2 ^ 40 := by decide
  refine P.mul_str (by have a1 : ¬ j < -(2 ^ 63 : Int) := by omega
                       have a2 : ¬ j ≥ 2 ^ 63 := by omega
                       rw [decide_eq_false a1, decide_eq_false a2]; rfl) (fun hn hc => ?_) (fun hn hc => ?_) ?_
  · intro hgt
    have hj : 0 < j := by omega
    have h3 : (i.length : Int) * j ≤ sizeLine := by
      have : ((i.length * j.toNat : Nat) : Int) ≤ (sizeLine : Int) := by exact_mod_cast hz
      rw [Int.natCast_mul, Int.toNat_of_nonneg (by omega)] at this
      exact this
    have h4 : (2 ^ 63 - 1) / j + 1 ≤ (i.length : Int) := hgt
    have h5 : ((2 ^ 63 - 1) / j + 1) * j ≤ (i.length : Int) * j := Int.mul_le_mul_of_nonneg_right h4 (by omega)
    have h6 : (2 ^ 63 - 1) < ((2 ^ 63 - 1) / j + 1) * j := Int.lt_ediv_add_one_mul_self _ hj
    have h7 : ((sizeLine : Nat) : Int) < 2 ^ 40 := by exact_mod_cast hz2
    omega
  · exact decide_eq_false (Nat.not_lt.mpr hz)
  · have e1 : repS i j = ⟨(List.replicate j.toNat i.cps).foldl (· ++ ·) #[]⟩ := by
      unfold repS
      rw [repS_fold]; simp
    by_cases hn : j < 1
    · rw [if_pos hn]
      have : repS i j = Str.empty := by
        unfold repS
        rw [show j.toNat = 0 by omega]
        rfl
      rw [this] at q
      exact ⟨by decide, ⟨.str Str.empty, H, I.tok _, ⟨_, rfl⟩, q⟩⟩
    · rw [if_neg hn]
      by_cases hc : (j == 1 || i.length == 0) = true
      · rw [if_pos hc]
        have : repS i j = i := by
          rw [Bool.or_eq_true] at hc
          rcases hc with hc | hc
          · have : j = 1 := by simpa using hc
            subst this
            unfold repS
            apply Str.ext'
            simp
          · have h0 : i.cps.size = 0 := by have : i.length = 0 := by simpa using hc
                                           exact this
            have h0' : i.cps = #[] := Array.eq_empty_of_size_eq_zero h0
            unfold repS
            apply Str.ext'
            rw [h0']
            simp
        rw [this] at q
        exact ⟨.str i, H, I, ⟨_, rfl⟩, q⟩
      · rw [if_neg hc, ← e1]
        refine ⟨?_, ⟨.str (repS i j), H, I.tok _, ⟨_, rfl⟩, q⟩⟩
        have : (repS i j).length = i.length * j.toNat := by
          show (List.replicate j.toNat i.cps.toList).flatten.toArray.size = _
          rw [List.size_toArray, List.length_flatten, List.map_replicate, List.sum_replicate_nat, Array.length_toList, Nat.mul_comm]; rfl
        rw [this]; exact hz
noncomputable def mulX : D → D → Res D
  | .str a, .int k => guard (k < 2 ^ 60 ∧ -(2 ^ 60) < k ∧ a.length * k.toNat ≤ sizeLine) (.ok (.str (repS a k)))
  | x, y => mulD x y
def rMulY : R2 := fun x y H Q => rMulX x y H Q ∨ rMulS x y H Q
theorem or_mulX : OpR X (binaryOp .Mult) rMulY := or_mul.or op_mulS
theorem os_mulX : OpS c (mV c) rMulY mulX := by
  intro σ S H x y d e Q ex hx hy p
  unfold mulX at p
  split at p
  · cases hx.str; cases hy.int
    obtain ⟨⟨h1, h2, h3⟩, p⟩ := p.gd
    exact .inr ⟨_, _, rfl, rfl, h1, h2, h3, p.here ex (.str _)⟩
  · exact .inl (os_mul σ S H x y _ _ Q ex hx hy p)
variable {cpos : Pos}
end
end Dx
end S_DxZ
section S_DxO
set_option Elab.async false
set_option linter.all false
set_option maxRecDepth 100000
set_option maxHeartbeats 2000000
namespace Dx
open PySem L2 ItX
open PyProof.Rows hiding St
section
variable {X : Cx} {k : Nat} {fa C : Addr} {fd : FuncData} {ps : List Str} {sp : Sp} {pins : List (Addr × Obj)} {σ : St} {H : Hp} {s : Shared} {Q : VK} {us : List Value} {vs : List V}
abbrev noX : XK := fun _ _ _ => False
/-- a def runs below, and raises nothing -/
theorem run_ce {A : Around} {R : Value → Shared → Prop} {E' : Value → Shared → Prop} (F1 : FnOk X.prog X.w X.K X.mg X.base (L2.CX X.prog X.w) k fa fd ps sp) (hr : Room k A) (e0 : Env0 X.prog X.w X.K X.mg X.base A X.stack s H) (hb : L2.Binds X.K fd ps []) (hK : X.K.In s.heap) (r : Vals vs us) (h : sp vs H Q noX)
    (fin : ∀ u s', CE X.stack X.prog X.w H s Q u s' → R u s') : wpAny (model X.prog X.w) A (call (.ref fa) us) R E' s := by
  have hl : (us ++ []).length = ps.length := by rw [List.append_nil, ← r.length]; exact F1.len _ _ _ _ h
  have hb2 := hb s us hK hl
  rw [List.append_nil] at hb2
  refine wpAny_call (codeAny_mono (F1.run A X.stack s H ⟨us, []⟩ us vs Q noX hr e0 hb2 r h) fun r s' hq => ?_)
  cases r with
  | error e => exact (cx_never hq).elim
  | ok fl =>
    cases fl with
    | ret u => exact fin u s' hq
    | next => exact False.elim hq
    | brk => exact False.elim hq
    | cont => exact False.elim hq
theorem run_calm {A : Around} {E' : Value → Shared → Prop} (F1 : FnOk X.prog X.w X.K X.mg X.base (L2.CX X.prog X.w) k fa fd ps sp) (hr : Room k A) (e0 : Env0 X.prog X.w X.K X.mg X.base A X.stack s H) (hb : L2.Binds X.K fd ps []) (I : Inv X pins σ H s) (r : Vals vs us) (h : sp vs H Q noX) :
    wpAny (model X.prog X.w) A (call (.ref fa) us) (EP X pins σ Q) E' s := run_ce F1 hr e0 hb I.kIn r h fun u s' hq => I.after hq
theorem ins_at {a dx : Addr} {fs : List (Str × V)} (I : Inv X pins σ H s) (h : H a = some (.ins C dx fs)) : ∃ ox od, PySem.W.InstAt s.heap a ox C od ∧ ox.data = .plain := by
  obtain ⟨mA, O, _⟩ := ins_get I.hok h
  obtain ⟨od, J, _⟩ := O.look
  exact ⟨_, _, J, rfl⟩
end
section
variable {X : Cx} {c : Cf} {L G G' : List Ow} {f f1 : Rho → Res D} {e o : Expr} {es : List Expr} {pos apos p : Pos} {fs : Rho → Res (List D)} {n : Str} {C : Addr} {F : List D → Res D} {ms : List Bool} {rm : Bool} {k : Nat} {fa : Addr} {fd : FuncData} {ps : List Str}
theorem calm_sp {S H : Hp} {vs : List V} {ds : List D} {Q : VK} {a : D} (ex : Ex S H) (m : RpM c S H ms vs ds) (hF : F ds = .ok a) (q : ∀ S' H' b, Fwd S H S' H' → mR c rm H S' H' b a → Q b H') : spD c.K c.cm ms rm F vs H Q noX := by
  refine call_rd (c := ⟨c.K, c.cm, fun _ _ _ _ => False, none, rm⟩) (σ := []) (fun _ _ _ h => h) ex (RpM.cf (c := c) (c' := ⟨c.K, c.cm, fun _ _ _ _ => False, none, rm⟩) rfl rfl m) ?_
  rw [hF]
  exact fun S' H' w b hb => q S' H' b w (by cases rm <;> exact hb)
/-- an object of the class n -/
def isCls (n : Str) : D → Bool
  | .obj c _ _ => decide (c = n)
  | _ => false
theorem of_isCls {S H : Hp} {v : V} {d : D} (ex : Ex S H) (hcn : c.cm n = some C) (h : isCls n d = true) (m : RpB c.K c.cm S H v d) : ∃ a dx fs, v = .ref a ∧ H a = some (.ins C dx fs) := by
  cases d with
  | obj c' ns vs =>
    have hc : c' = n := of_decide_eq_true h
    subst hc
    obtain ⟨q, C', dx, fs, rfl, h1, h2, _, _⟩ := RpB.obj m ex
    rw [hcn] at h1; cases h1
    exact ⟨q, dx, fs, rfl, h2⟩
  | _ => cases h
def dStar (f : Rho → Res D) (fs : Rho → Res (List D)) : Rho → Res (List D) := fun r => (f r).bind fun d => (items d).bind fun xs => (fs r).bind fun ys => .ok (xs ++ ys)
def zipL : List D → Res (List D)
  | [.lst x, .lst y] => .ok (pairs x y)
  | _ => .bad
end
end Dx
end S_DxO
section S_DxP
set_option Elab.async false
set_option linter.all false
set_option maxRecDepth 100000
set_option maxHeartbeats 2000000
namespace Dx
open PySem L2 ItX
open PyProof.Rows hiding St
end Dx
end S_DxP
section S_DxM
set_option Elab.async false
set_option linter.all false
set_option maxRecDepth 100000
namespace Dx
open PySem L2
def Rs {α : Type} (x : Res α) (Q : α → Prop) (E : Str → List Str → List D → Prop) : Prop := match x with
  | .ok a => Q a
  | .err n ns vs => E n ns vs
  | .bad => False
def nE : Str → List Str → List D → Prop := fun _ _ _ => False
def nE' : Rho → Str → List Str → List D → Prop := fun _ _ _ _ => False
def nR : Rho → Prop := fun _ => False
def Ss (o : SR) (N : Rho → Prop) (R : D → Prop) (B C : Rho → Prop) (E : Rho → Str → List Str → List D → Prop) : Prop := match o with
  | .nx r => N r
  | .rt d => R d
  | .bk r => B r
  | .ct r => C r
  | .er r n ns vs => E r n ns vs
  | .bad => False
section
variable {α β : Type} {Q Q' : α → Prop} {E E' : Str → List Str → List D → Prop}
theorem Rs.imp {x : Res α} (h : Rs x Q nE) (k : ∀ a, Q a → Q' a) : Rs x Q' E := by
  cases x with
  | ok a => exact k a h
  | err n ns vs => exact h.elim
  | bad => exact h.elim
theorem Rs.impE {x : Res α} (h : Rs x Q E) (k : ∀ a, Q a → Q' a) (l : ∀ n ns vs, E n ns vs → E' n ns vs) : Rs x Q' E' := by
  cases x with
  | ok a => exact k a h
  | err n ns vs => exact l _ _ _ h
  | bad => exact h.elim
theorem Rs.of {x : Res α} {a : α} (h : x = .ok a) (q : Q a) : Rs x Q E := by rw [h]; exact q
theorem Rs.eq {x : Res α} {a : α} (h : Rs x (fun b => b = a) nE) : x = .ok a := by
  cases x with
  | ok b => exact congrArg _ h
  | err n ns vs => exact h.elim
  | bad => exact h.elim
theorem Rs.get {x : Res α} (h : Rs x Q nE) : ∃ a, x = .ok a ∧ Q a := by
  cases x with
  | ok a => exact ⟨a, rfl, h⟩
  | err n ns vs => exact h.elim
  | bad => exact h.elim
theorem Rs.bind {x : Res β} {k : β → Res α} (h : Rs x (fun b => Rs (k b) Q E) E) : Rs (x.bind k) Q E := by
  cases x with
  | ok a => exact h
  | err n ns vs => exact h
  | bad => exact h
theorem rs_guard {p : Prop} {x : Res α} (h : p) (k : Rs x Q E) : Rs (guard p x) Q E := by rw [guard_pos h]; exact k
end
section
variable {Q : D → Prop} {E : Str → List Str → List D → Prop} {r : Rho} {f f1 f2 f3 : Rho → Res D} {fs : Rho → Res (List D)} {t u : Rho → Res Bool} {d : D} {i : Nat}
theorem rs_var (h : r[i]? = some (some d)) (q : Q d) : Rs (dVar i r) Q E := by unfold dVar; rw [h]; exact q
theorem rs_c (q : Q d) : Rs (dC d r) Q E := q
theorem rs_op {g : D → D → Res D} (h : Rs (f1 r) (fun a => Rs (f2 r) (fun b => Rs (g a b) Q E) E) E) : Rs (dOp g f1 f2 r) Q E := Rs.bind (h.impE (fun a q => Rs.bind q) fun _ _ _ z => z)
theorem rs_str {g : D → D → Res D} (h : Rs (f1 r) (fun a => Rs (asS a) (fun _ => Rs (f2 r) (fun b => Rs (g a b) Q E) E) E) E) : Rs (dStr g f1 f2 r) Q E := Rs.bind (h.impE (fun a q => Rs.bind (q.impE (fun _ q => Rs.bind q) fun _ _ _ z => z)) fun _ _ _ z => z)
theorem rs_asS {z : Str} {Q : Str → Prop} (q : Q z) : Rs (asS (.str z)) Q E := q
theorem rs_un {g : D → Res D} (h : Rs (f r) (fun a => Rs (g a) Q E) E) : Rs (dUn g f r) Q E := Rs.bind h
theorem rs_nil {Q : List D → Prop} (q : Q []) : Rs (dNil r) Q E := q
theorem rs_cons {Q : List D → Prop} (h : Rs (f r) (fun x => Rs (fs r) (fun xs => Q (x :: xs)) E) E) : Rs (dCons f fs r) Q E := Rs.bind (h.impE (fun a q => Rs.bind q) fun _ _ _ z => z)
theorem rs_call {g : List D → Res D} (h : Rs (fs r) (fun ds => Rs (g ds) Q E) E) : Rs (dCall g fs r) Q E := Rs.bind h
theorem rs_tup (h : Rs (fs r) (fun ds => ds.length ≤ sizeLine ∧ Q (.tup ds)) E) : Rs (dTup fs r) Q E := Rs.bind (h.impE (fun ds q => rs_guard q.1 q.2) fun _ _ _ z => z)
theorem rs_lst (h : Rs (fs r) (fun ds => ds.length ≤ sizeLine ∧ Q (.lst ds)) E) : Rs (dLst fs r) Q E := Rs.bind (h.impE (fun ds q => rs_guard q.1 q.2) fun _ _ _ z => z)
theorem rs_T {Q : Bool → Prop} (h : Rs (f r) (fun d => Rs (asB d) Q E) E) : Rs (dT f r) Q E := Rs.bind h
theorem rs_asB {b : Bool} {Q : Bool → Prop} (q : Q b) : Rs (asB (.bl b)) Q E := q
theorem rs_asI {b : Int} {Q : Int → Prop} (q : Q b) : Rs (asI (.int b)) Q E := q
theorem rs_not {Q : Bool → Prop} (h : Rs (t r) (fun b => Q (!b)) E) : Rs (dNot t r) Q E := Rs.bind h
theorem rs_and {Q : Bool → Prop} (h : Rs (t r) (fun a => Rs (u r) (fun b => Q (a && b)) nE) E) : Rs (dAnd t u r) Q E := Rs.bind (h.impE (fun a q => by
  cases a
  · obtain ⟨b, _, q⟩ := q.get
    exact q
  · exact q.impE (fun _ z => z) fun _ _ _ z => z.elim) fun _ _ _ z => z)
theorem rs_or {Q : Bool → Prop} (h : Rs (t r) (fun a => Rs (u r) (fun b => Q (a || b)) nE) E) : Rs (dOr t u r) Q E := Rs.bind (h.impE (fun a q => by
  cases a
  · exact q.impE (fun _ z => z) fun _ _ _ z => z.elim
  · obtain ⟨b, _, q⟩ := q.get
    exact q) fun _ _ _ z => z)
theorem rs_andc {Q : Bool → Prop} (h : Rs (t r) (fun a => (a = true → Rs (u r) Q E) ∧ (a = false → Q false)) E) : Rs (dAnd t u r) Q E := Rs.bind (h.impE (fun a q => by
  cases a
  · exact q.2 rfl
  · exact q.1 rfl) fun _ _ _ z => z)
theorem rs_orc {Q : Bool → Prop} (h : Rs (t r) (fun a => (a = true → Q true) ∧ (a = false → Rs (u r) Q E)) E) : Rs (dOr t u r) Q E := Rs.bind (h.impE (fun a q => by
  cases a
  · exact q.2 rfl
  · exact q.1 rfl) fun _ _ _ z => z)
theorem rs_andV (h : Rs (f1 r) (fun a => Rs (asB a) (fun a => Rs (f2 r) (fun b => Rs (asB b) (fun b => Q (.bl (a && b))) nE) nE) E) E) : Rs (dAndV f1 f2 r) Q E := Rs.bind (h.impE (fun a q => Rs.bind (q.impE (fun a q => by
  obtain ⟨b, e, q⟩ := q.get
  cases b with
  | bl b =>
    cases a
    · exact q
    · exact Rs.of e q
  | _ => exact q.elim) fun _ _ _ z => z)) fun _ _ _ z => z)
theorem rs_orV (h : Rs (f1 r) (fun a => Rs (asB a) (fun a => Rs (f2 r) (fun b => Rs (asB b) (fun b => Q (.bl (a || b))) nE) nE) E) E) : Rs (dOrV f1 f2 r) Q E := Rs.bind (h.impE (fun a q => Rs.bind (q.impE (fun a q => by
  obtain ⟨b, e, q⟩ := q.get
  cases b with
  | bl b =>
    cases a
    · exact Rs.of e q
    · exact q
  | _ => exact q.elim) fun _ _ _ z => z)) fun _ _ _ z => z)
theorem rs_andVc (h : Rs (f1 r) (fun a => Rs (asB a) (fun a => (a = true → Rs (f2 r) Q E) ∧ (a = false → Q (.bl false))) E) E) : Rs (dAndV f1 f2 r) Q E := Rs.bind (h.impE (fun a q => Rs.bind (q.impE (fun a q => by
  cases a
  · exact q.2 rfl
  · exact q.1 rfl) fun _ _ _ z => z)) fun _ _ _ z => z)
theorem rs_orVc (h : Rs (f1 r) (fun a => Rs (asB a) (fun a => (a = true → Q (.bl true)) ∧ (a = false → Rs (f2 r) Q E)) E) E) : Rs (dOrV f1 f2 r) Q E := Rs.bind (h.impE (fun a q => Rs.bind (q.impE (fun a q => by
  cases a
  · exact q.2 rfl
  · exact q.1 rfl) fun _ _ _ z => z)) fun _ _ _ z => z)
theorem rs_notV (h : Rs (f r) (fun a => Rs (asB a) (fun b => Q (.bl (!b))) E) E) : Rs (dNotV f r) Q E := Rs.bind (h.impE (fun a q => Rs.bind q) fun _ _ _ z => z)
theorem rs_ifx {α : Type} {Q : α → Prop} {f g : Rho → Res α} (h : Rs (t r) (fun b => (b = true → Rs (f r) Q E) ∧ (b = false → Rs (g r) Q E)) E) : Rs (dIf t f g r) Q E := Rs.bind (h.impE (fun a q => by
  cases a
  · exact q.2 rfl
  · exact q.1 rfl) fun _ _ _ z => z)
theorem rs_tru {Q : Bool → Prop} (h : Rs (f r) (fun d => Rs (truB d) Q E) E) : Rs (dTru f r) Q E := Rs.bind h
theorem rs_truB {b : Bool} {Q : Bool → Prop} (q : Q b) : Rs (truB (.bl b)) Q E := q
theorem rs_truI {b : Int} {Q : Bool → Prop} (q : Q (b != 0)) : Rs (truB (.int b)) Q E := q
theorem rs_truL {ds : List D} {Q : Bool → Prop} (q : Q (!ds.isEmpty)) : Rs (truB (.lst ds)) Q E := q
theorem rs_truT {ds : List D} {Q : Bool → Prop} (q : Q (!ds.isEmpty)) : Rs (truB (.tup ds)) Q E := q
theorem rs_truN {Q : Bool → Prop} (q : Q false) : Rs (truB .non) Q E := q
theorem rs_chain {g g' : D → D → Res D} (h : Rs (f1 r) (fun x => Rs (f2 r) (fun y => Rs (g x y) (fun z => Rs (asB z) (fun a => Rs (f3 r) (fun w => Rs (g' y w) (fun e => Rs (asB e) (fun b => Q (.bl (a && b))) nE) nE) nE) E) E) E) E) : Rs (dChain g g' f1 f2 f3 r) Q E :=
  Rs.bind (h.impE (fun x q => Rs.bind (q.impE (fun y q => Rs.bind (q.impE (fun z q => Rs.bind (q.impE (fun a q => by
    obtain ⟨w, e1, q⟩ := q.get
    obtain ⟨e, e2, q⟩ := q.get
    cases e with
    | bl b =>
      cases a
      · exact q
      · exact Rs.bind (Rs.of e1 (Rs.of e2 q))
    | _ => exact q.elim) fun _ _ _ z => z)) fun _ _ _ z => z)) fun _ _ _ z => z)) fun _ _ _ z => z)
theorem rs_noP {Q : Option Int → Prop} (q : Q none) : Rs (dNoP r) Q E := q
theorem rs_part {Q : Option Int → Prop} (h : Rs (f r) (fun d => Rs (asI d) (fun i => Q (some i)) E) E) : Rs (dPart f r) Q E := Rs.bind (h.impE (fun a q => Rs.bind q) fun _ _ _ z => z)
theorem rs_sl {g : D → Option Int → Option Int → Res D} {fl fh : Rho → Res (Option Int)} (h : Rs (f r) (fun d => Rs (fl r) (fun l => Rs (fh r) (fun k => Rs (g d l k) Q E) E) E) E) : Rs (dSl g f fl fh r) Q E := Rs.bind (h.impE (fun a q => Rs.bind (q.impE (fun _ q => Rs.bind q) fun _ _ _ z => z)) fun _ _ _ z => z)
theorem rs_it {g : D → Res (List D)} {Q : List D → Prop} (h : Rs (f r) (fun d => Rs (g d) Q E) E) : Rs (dIt g f r) Q E := Rs.bind h
theorem rs_its {g : List D → Res (List D)} {Q : List D → Prop} (h : Rs (fs r) (fun d => Rs (g d) Q E) E) : Rs (dIts g fs r) Q E := Rs.bind h
theorem rs_yes {Q : Bool → Prop} (q : Q true) : Rs (dYes r) Q E := q
theorem rs_meth {n m : Str} {F : List D → Res D} (h : Rs (f r) (fun x => Rs (isObj n m x) (fun _ => Rs (fs r) (fun ds => Rs (F (x :: ds)) Q E) E) E) E) : Rs (dMeth n m F f fs r) Q E := Rs.bind (h.impE (fun a q => Rs.bind (q.impE (fun _ q => Rs.bind q) fun _ _ _ z => z)) fun _ _ _ z => z)
theorem rs_isObj {n m : Str} {ns : List Str} {vs : List D} {Q : Unit → Prop} (h : m ∉ ns) (q : Q ()) : Rs (isObj n m (.obj n ns vs)) Q E := by
  show Rs (if n = n ∧ m ∉ ns then .ok () else .bad) Q E
  rw [if_pos ⟨rfl, h⟩]; exact q
theorem rs_fld {n fl : Str} {ns : List Str} {vs : List D} (h : lookF ns vs fl = some d) (q : Q d) : Rs (fldD n fl (.obj n ns vs)) Q E := by
  show Rs (if n = n then (match lookF ns vs fl with | some d => .ok d | none => .bad) else .bad) Q E
  rw [if_pos rfl, h]; exact q
end
abbrev Sg (l : List Nat) : Str := ⟨l.toArray⟩
theorem ST_len (l : List Nat) : (Sg l).length = l.length := by simp [Sg, Str.length]
theorem ST_app (a b : List Nat) : Sg a ++ Sg b = Sg (a ++ b) := TL.ext_tl (by rw [TL.tl_append])
theorem ST_inj {a b : List Nat} : Sg a = Sg b ↔ a = b := ⟨fun h => congrArg TL.tl h, fun h => by rw [h]⟩
theorem ST_dec (a b : List Nat) : decide (Sg a = Sg b) = decide (a = b) := by
  by_cases h : a = b
  · subst h; simp
  · simp [h, ST_inj]
section
variable {Q : D → Prop} {E : Str → List Str → List D → Prop} {i j : Int} {a b : List Nat} {ds es : List D} {d e : D}
theorem rs_add (q : Q (.int (i + j))) : Rs (addD (.int i) (.int j)) Q E := q
theorem rs_addS (h : a.length + b.length ≤ sizeLine) (q : Q (.str (Sg (a ++ b)))) : Rs (addD (.str (Sg a)) (.str (Sg b))) Q E := rs_guard (by rw [ST_len, ST_len]; exact h) (by rw [ST_app]; exact q)
theorem rs_addT (h : ds.length + es.length ≤ sizeLine) (q : Q (.tup (ds ++ es))) : Rs (addD (.tup ds) (.tup es)) Q E := rs_guard h q
theorem rs_addLL (h : ds.length + es.length ≤ sizeLine) (q : Q (.lst (ds ++ es))) : Rs (addD (.lst ds) (.lst es)) Q E := rs_guard h q
theorem rs_addLO (h : ds.length + es.length ≤ sizeLine) (q : Q (.lst (ds ++ es))) : Rs (addL (.lst ds) (.lst es)) Q E := rs_guard h q
theorem rs_sub (q : Q (.int (i - j))) : Rs (subD (.int i) (.int j)) Q E := q
theorem rs_neg (q : Q (.int (-i))) : Rs (negD (.int i)) Q E := q
theorem rs_mul (h : smallI i ∨ smallI j) (q : Q (.int (i * j))) : Rs (mulX (.int i) (.int j)) Q E := rs_guard h q
theorem rs_mulL (h : 0 ≤ j ∧ j < 2 ^ 60 ∧ ds.length * j.toNat ≤ sizeLine) (q : Q (.lst (List.replicate j.toNat ds).flatten)) : Rs (mulX (.lst ds) (.int j)) Q E := rs_guard h q
theorem rs_fdiv (h : 0 < j ∧ j < 4611686018427387904) (q : Q (.int (i / j))) : Rs (fdivD (.int i) (.int j)) Q E := by
  show Rs (if 0 < j then guard (j < 4611686018427387904) (.ok (.int (i / j))) else _) Q E
  rw [if_pos h.1]; exact rs_guard h.2 q
theorem rs_mod (h : 0 < j) (q : Q (.int (i % j))) : Rs (modD (.int i) (.int j)) Q E := rs_guard h q
theorem rs_eqI (q : Q (.bl (decide (i = j)))) : Rs (eqD (.int i) (.int j)) Q E := q
theorem rs_neI (q : Q (.bl (!decide (i = j)))) : Rs (neD (.int i) (.int j)) Q E := q
theorem rs_eqS (q : Q (.bl (decide (a = b)))) : Rs (eqD (.str (Sg a)) (.str (Sg b))) Q E := by
  show Q (.bl (decide (Sg a = Sg b)))
  rw [ST_dec]; exact q
theorem rs_neS (q : Q (.bl (!decide (a = b)))) : Rs (neD (.str (Sg a)) (.str (Sg b))) Q E := by
  show Q (.bl (!decide (Sg a = Sg b)))
  rw [ST_dec]; exact q
theorem rs_eqB {x y : Bool} (q : Q (.bl (decide (x = y)))) : Rs (eqD (.bl x) (.bl y)) Q E := q
theorem rs_neB {x y : Bool} (q : Q (.bl (!decide (x = y)))) : Rs (neD (.bl x) (.bl y)) Q E := q
theorem rs_lt (q : Q (.bl (decide (i < j)))) : Rs (ltD (.int i) (.int j)) Q E := q
theorem rs_le (q : Q (.bl (decide (i ≤ j)))) : Rs (leD (.int i) (.int j)) Q E := q
theorem rs_gt (q : Q (.bl (decide (j < i)))) : Rs (gtD (.int i) (.int j)) Q E := q
theorem rs_ge (q : Q (.bl (decide (j ≤ i)))) : Rs (geD (.int i) (.int j)) Q E := q
theorem rs_is (q : Q (.bl (isN d))) : Rs (isD false d .non) Q E := q
theorem rs_isn (q : Q (.bl (!isN d))) : Rs (isD true d .non) Q E := q
theorem rs_inS {n : Nat} (q : Q (.bl (decide (n ∈ b)))) : Rs (inD (.str (Sg [n])) (.str (Sg b))) Q E := q
theorem rs_ninS {n : Nat} (q : Q (.bl (!decide (n ∈ b)))) : Rs (ninD (.str (Sg [n])) (.str (Sg b))) Q E := q
theorem rs_lenS (h : a.length ≤ sizeLine) (q : Q (.int a.length)) : Rs (g1 lenD [.str (Sg a)]) Q E := rs_guard (by rw [ST_len]; exact h) (by show Q _; rw [ST_len]; exact q)
theorem rs_lenL (q : Q (.int ds.length)) : Rs (g1 lenD [.lst ds]) Q E := q
theorem rs_lenF (q : Q (.int ds.length)) : Rs (g1 lenD [.fz ds]) Q E := q
theorem rs_lenT (q : Q (.int ds.length)) : Rs (g1 lenD [.tup ds]) Q E := q
theorem rs_int (q : Q (.int i)) : Rs (g1 intD [.int i]) Q E := q
theorem rs_intB {x : Bool} (q : Q (.int (if x then 1 else 0))) : Rs (g1 intD [.bl x]) Q E := q
theorem rs_abs (q : Q (.int (if i < 0 then -i else i))) : Rs (g1 absD [.int i]) Q E := q
theorem rs_listL (q : Q (.lst ds)) : Rs (g1 listD [.lst ds]) Q E := q
theorem rs_listT (q : Q (.lst ds)) : Rs (g1 listD [.tup ds]) Q E := q
theorem rs_tupL (q : Q (.tup ds)) : Rs (g1 tupleD [.lst ds]) Q E := q
theorem rs_tupT (q : Q (.tup ds)) : Rs (g1 tupleD [.tup ds]) Q E := q
theorem rs_ixL (h : atI ds i = some d) (q : Q d) : Rs (ixD (.lst ds) (.int i)) Q E := by
  show Rs (match atI ds i with | some d => Res.ok d | none => Res.bad) Q E
  rw [h]; exact q
theorem rs_ixF (h : atI ds i = some d) (q : Q d) : Rs (ixD (.fz ds) (.int i)) Q E := by
  show Rs (match atI ds i with | some d => Res.ok d | none => Res.bad) Q E
  rw [h]; exact q
theorem rs_ixT (h : atI ds i = some d) (q : Q d) : Rs (ixD (.tup ds) (.int i)) Q E := by
  show Rs (match atI ds i with | some d => Res.ok d | none => Res.bad) Q E
  rw [h]; exact q
theorem rs_slL {lo hi : Option Int} (q : Q (.lst (cutL ds lo hi))) : Rs (slD (.lst ds) lo hi) Q E := q
theorem rs_slO {lo hi : Option Int} (q : Q (.lst (cutL ds lo hi))) : Rs (slL (.lst ds) lo hi) Q E := q
theorem rs_slT {lo hi : Option Int} (q : Q (.tup (cutL ds lo hi))) : Rs (slD (.tup ds) lo hi) Q E := q
theorem cutS_ST {lo hi : Option Int} : cutS (Sg a) lo hi = Sg (cutL a lo hi) := by
  unfold cutS cutL
  rw [ST_len]
theorem rs_slS {lo hi : Option Int} (h : a.length ≤ sizeLine) (q : Q (.str (Sg (cutL a lo hi)))) : Rs (slD (.str (Sg a)) lo hi) Q E := rs_guard (by rw [ST_len]; exact h) (by rw [cutS_ST]; exact q)
theorem rs_rng1 {n : Nat} {Q : List D → Prop} (h : n < 4611686018427387904) (q : Q (rngL 0 n)) : Rs (rng1 [.int (n : Int)]) Q E := rs_guard (by omega) (by rw [Int.toNat_natCast]; exact q)
theorem rs_itsL {Q : List D → Prop} (q : Q ds) : Rs (itemsL (.lst ds)) Q E := q
theorem rs_itsT {Q : List D → Prop} (q : Q ds) : Rs (itemsT (.tup ds)) Q E := q
theorem rs_itsS {Q : List D → Prop} (q : Q (a.map fun n => .str (Sg [n]))) : Rs (itemsS (.str (Sg a))) Q E := q
theorem rs_enL {Q : List D → Prop} (q : Q (numd 0 ds)) : Rs (enumL (.lst ds)) Q E := q
theorem rs_enT {Q : List D → Prop} (q : Q (numd 0 ds)) : Rs (enumT (.tup ds)) Q E := q
theorem rs_enS {Q : List D → Prop} (q : Q (numd 0 (a.map fun n => .str (Sg [n])))) : Rs (enumS (.str (Sg a))) Q E := q
theorem rs_isi {T n : String} {b : Bool} (h1 : tyN d = some n) (h2 : kitB n T = some b) (q : Q (.bl b)) : Rs (isiD T d) Q E := by unfold isiD; rw [h1]; dsimp only; rw [h2]; exact q
end
section
variable {N B C : Rho → Prop} {R : D → Prop} {E : Rho → Str → List Str → List D → Prop} {r : Rho} {f f1 f2 fi : Rho → Res D} {fs : Rho → Res (List D)} {t : Rho → Res Bool} {d : D} {F K : Rho → SR} {i j : Nat}
theorem Ss.imp {N' B' C' : Rho → Prop} {R' : D → Prop} {E' : Rho → Str → List Str → List D → Prop} {o : SR} (h : Ss o N R B C E) (hn : ∀ r, N r → N' r) (hr : ∀ d, R d → R' d) (hb : ∀ r, B r → B' r) (hc : ∀ r, C r → C' r) (he : ∀ r n ns vs, E r n ns vs → E' r n ns vs) : Ss o N' R' B' C' E' := by
  cases o with
  | nx r => exact hn _ h
  | rt d => exact hr _ h
  | bk r => exact hb _ h
  | ct r => exact hc _ h
  | er r n ns vs => exact he _ _ _ _ h
  | bad => exact h
theorem ss_nx (h : N r) : Ss (.nx r) N R B C E := h
theorem ss_bk (h : B r) : Ss (.bk r) N R B C E := h
theorem ss_ct (h : C r) : Ss (.ct r) N R B C E := h
theorem ss_lift {α : Type} {x : Res α} {k : α → SR} (h : Rs x (fun a => Ss (k a) N R B C E) (E r)) : Ss (liftS r x k) N R B C E := by
  cases x with
  | ok a => exact h
  | err n ns vs => exact h
  | bad => exact h
theorem ss_seq (h : Ss (F r) (fun r' => Ss (K r') N R B C E) R B C E) : Ss (seqF F K r) N R B C E := by
  unfold seqF
  cases e : F r with
  | nx r' => rw [e] at h; exact h
  | rt d => rw [e] at h; exact h
  | bk r => rw [e] at h; exact h
  | ct r => rw [e] at h; exact h
  | er r n ns vs => rw [e] at h; exact h
  | bad => rw [e] at h; exact h
theorem ss_set (h : Rs (f r) (fun d => N (r.set i (some d))) (E r)) : Ss (setF i f r) N R B C E := ss_lift h
theorem ss_ret (h : Rs (f r) R (E r)) : Ss (retF f r) N R B C E := ss_lift h
theorem ss_drop (h : Rs (f r) (fun _ => N r) (E r)) : Ss (dropF f r) N R B C E := ss_lift h
theorem ss_if (h : Rs (t r) (fun b => (b = true → Ss (F r) N R B C E) ∧ (b = false → Ss (K r) N R B C E)) (E r)) : Ss (ifF t F K r) N R B C E := ss_lift (h.impE (fun b q => by
  cases b
  · exact q.2 rfl
  · exact q.1 rfl) fun _ _ _ z => z)
theorem ss_app {ds : List D} (h1 : r[i]? = some (some (.lst ds))) (h : Rs (f r) (fun d => ds.length < sizeLine ∧ N (r.set i (some (.lst (ds ++ [d]))))) (E r)) : Ss (appF i f r) N R B C E := by
  unfold appF
  refine ss_lift (Rs.of (a := ds) (by unfold ownL; rw [h1]) (ss_lift (h.impE (fun d q => ?_) fun _ _ _ z => z)))
  rw [guardS_pos q.1]; exact q.2
theorem ss_asg {tg : D → Rho → Res Rho} (h : Rs (f r) (fun d => ∃ r', tg d r = .ok r' ∧ N r') (E r)) : Ss (asgF tg f r) N R B C E := ss_lift (h.impE (fun d q => by
  obtain ⟨r', e, q⟩ := q
  rw [e]; exact q) fun _ _ _ z => z)
theorem ss_par (h : Rs (f1 r) (fun d => Rs (f2 r) (fun e => N ((r.set i (some d)).set j (some e))) (E r)) (E r)) : Ss (parF i j f1 f2 r) N R B C E := ss_lift (rs_cons (h.impE (fun d q => rs_cons (q.impE (fun e q => rs_nil q) fun _ _ _ z => z)) fun _ _ _ z => z))
theorem ss_aug {g : D → D → Res D} (h : Rs (dVar i r) (fun x => Rs (f r) (fun y => Rs (g x y) (fun z => N (r.set i (some z))) (E r)) (E r)) (E r)) : Ss (augF i g f r) N R B C E := ss_lift (h.impE (fun x q => ss_lift (q.impE (fun y q => ss_lift q) fun _ _ _ z => z)) fun _ _ _ z => z)
theorem rs_ints {g : Int → Int → Int} {Q : D → Prop} {E : Str → List Str → List D → Prop} {i j : Int} (q : Q (.int (g i j))) : Rs (intsD g (.int i) (.int j)) Q E := q
theorem ss_raise {n : Str} {ns : List Str} {rev : Bool} (h : Rs (fs r) (fun ds => ds.length = ns.length ∧ E r n ns (if rev then ds.reverse else ds)) (E r)) : Ss (raiF n ns rev fs r) N R B C E := ss_lift (h.impE (fun ds q => by
  rw [if_pos q.1]; exact q.2) fun _ _ _ z => z)
theorem ss_sto {ds : List D} {k : Int} {n : Nat} (h : Rs (f r) (fun d => r[i]? = some (some (.lst ds)) ∧ Rs (fi r) (fun x => x = .int k ∧ ixN ds.length k = some n ∧ N (r.set i (some (.lst (ds.set n d))))) (E r)) (E r)) : Ss (stoF i fi f r) N R B C E := ss_lift (h.impE (fun d q => ss_lift (Rs.of (a := ds) (by unfold ownL; rw [q.1]) (ss_lift (q.2.impE (fun x q => by
  obtain ⟨rfl, h2, h3⟩ := q
  refine ss_lift ?_
  show Ss (match ixN ds.length k with | some j => SR.nx (r.set i (some (.lst (ds.set j d)))) | none => .bad) N R B C E
  rw [h2]; exact h3) fun _ _ _ z => z)))) fun _ _ _ z => z)
theorem ss_fst {n fl : Str} {ns : List Str} {vs : List D} (h : Rs (f r) (fun d => r[i]? = some (some (.obj n ns vs)) ∧ ns.length < 1000 ∧ N (r.set i (some (.obj n (putN fl d ns vs).1 (putN fl d ns vs).2)))) (E r)) : Ss (fstF i n fl f r) N R B C E := ss_lift (h.impE (fun d q => by
  rw [q.1]
  show Ss (if n = n ∧ ns.length < 1000 then _ else _) N R B C E
  rw [if_pos ⟨rfl, q.2.1⟩]; exact q.2.2) fun _ _ _ z => z)
theorem ss_cut {N' : Rho → Prop} {o : SR} (M : Rho → Prop) (h : Ss o M R B C E) (k : ∀ r, M r → N' r) : Ss o N' R B C E := h.imp k (fun _ z => z) (fun _ z => z) (fun _ z => z) fun _ _ _ _ z => z
theorem ss_loop {tg : D → Rho → Res Rho} (I : Nat → Rho → Prop) : ∀ (ds : List D) (k : Nat) (r : Rho), I k r →
    (∀ i d r, ds[i]? = some d → I (k + i) r → ∃ r1, tg d r = .ok r1 ∧ Ss (F r1) (I (k + i + 1)) R N (I (k + i + 1)) E) → (∀ r, I (k + ds.length) r → N r) → Ss (loopF tg F ds r) N R B C E
  | [], k, r, h0, _, he => he r h0
  | d :: ds, k, r, h0, hs, he => by
    obtain ⟨r1, e1, h1⟩ := hs 0 d r rfl h0
    have go : ∀ r2, I (k + 1) r2 → Ss (loopF tg F ds r2) N R B C E := fun r2 h2 => ss_loop I ds (k + 1) r2 h2 (fun i d r h hi => by
      have z := hs (i + 1) d r (by simpa using h) (by rw [show k + (i + 1) = k + 1 + i from by omega]; exact hi)
      rw [show k + (i + 1) = k + 1 + i from by omega] at z
      exact z) fun r h => he r (by rw [List.length_cons, show k + (ds.length + 1) = k + 1 + ds.length from by omega]; exact h)
    rw [loopF, e1]
    dsimp only
    cases e : F r1 with
    | nx r2 => rw [e] at h1; exact go r2 h1
    | ct r2 => rw [e] at h1; exact go r2 h1
    | bk r2 => rw [e] at h1; exact h1
    | rt d => rw [e] at h1; exact h1
    | er r n ns vs => rw [e] at h1; exact h1
    | bad => rw [e] at h1; exact h1
/-- a for, by an invariant at each number of items -/
theorem ss_for {its : Rho → Res (List D)} {tg : D → Rho → Res Rho} (I : Nat → Rho → Prop) (h : Rs (its r) (fun ds => I 0 r ∧ (∀ i d r, ds[i]? = some d → I i r → ∃ r1, tg d r = .ok r1 ∧ Ss (F r1) (I (i + 1)) R N (I (i + 1)) E) ∧ ∀ r, I ds.length r → N r) (E r)) : Ss (forF its tg F r) N R B C E :=
  ss_lift (h.impE (fun ds q => ss_loop I ds 0 r q.1 (fun i d r h1 h2 => by
    have z := q.2.1 i d r h1 (by rw [Nat.zero_add] at h2; exact h2)
    rw [Nat.zero_add]; exact z) fun r h => q.2.2 r (by rw [Nat.zero_add] at h; exact h)) fun _ _ _ z => z)
theorem rngL_get {a : Int} {n i : Nat} {d : D} (h : (rngL a n)[i]? = some d) : i < n ∧ d = .int (a + (i : Int)) := by
  unfold rngL at h
  rw [List.getElem?_map] at h
  by_cases hi : i < n
  · rw [List.getElem?_range hi] at h
    cases h
    exact ⟨hi, rfl⟩
  · rw [List.getElem?_eq_none (by simp; omega)] at h
    cases h
theorem rngL_len (a : Int) (n : Nat) : (rngL a n).length = n := by unfold rngL; simp
/-- for k in range(n) -/
theorem ss_rng {m : Nat} (n : Nat) (I : Nat → Rho → Prop) (h : Rs (f r) (fun d => d = .int (n : Int)) (E r)) (hn : n < 4611686018427387904) (h0 : I 0 r) (hs : ∀ i r, i < n → I i r → Ss (F (r.set m (some (.int (i : Int))))) (I (i + 1)) R N (I (i + 1)) E) (he : ∀ r, I n r → N r) : Ss (forF (dIts rng1 (dCons f dNil)) (tgN m) F r) N R B C E :=
  ss_for I (rs_its (rs_cons (h.impE (fun d q => by
    subst q
    refine rs_nil (rs_rng1 hn ⟨h0, fun i d r h1 h2 => ?_, fun r h => he r (by rw [rngL_len] at h; exact h)⟩)
    obtain ⟨h3, rfl⟩ := rngL_get h1
    exact ⟨_, rfl, by rw [Int.zero_add]; exact hs i r h3 h2⟩) fun _ _ _ z => z)))
/-- for x in xs -/
theorem ss_each {α : Type} {m : Nat} (g : α → D) (xs : List α) (I : Nat → Rho → Prop) (h : Rs (f r) (fun d => d = .lst (xs.map g)) (E r)) (h0 : I 0 r) (hs : ∀ i x r, xs[i]? = some x → I i r → Ss (F (r.set m (some (g x)))) (I (i + 1)) R N (I (i + 1)) E) (he : ∀ r, I xs.length r → N r) : Ss (forF (dIt itemsL f) (tgN m) F r) N R B C E :=
  ss_for I (rs_it (h.impE (fun d q => by
    subst q
    refine rs_itsL ⟨h0, fun i d r h1 h2 => ?_, fun r h => he r (by rw [List.length_map] at h; exact h)⟩
    rw [List.getElem?_map] at h1
    cases hx : xs[i]? with
    | none => rw [hx] at h1; cases h1
    | some x => rw [hx] at h1; cases h1; exact ⟨_, rfl, hs i x r hx h2⟩) fun _ _ _ z => z))
end
section
variable {Q : D → Prop} {E : Str → List Str → List D → Prop} {r : Rho} {f : Rho → Res D} {its : Rho → Res (List D)} {tg : D → Rho → Res Rho} {tt : Rho → Res Bool} {fe : Rho → Res D} {vs : List Nat}
theorem rs_run {n : Nat} {F : Rho → SR} {as : List D} (h : Ss (F (startR n as)) (fun _ => Q .non) Q nR nR (fun _ => E)) : Rs (runF n false F as) Q E := by
  unfold runF
  cases e : F (startR n as) with
  | nx r => rw [e] at h; exact h
  | rt d => rw [e] at h; exact h
  | bk r => rw [e] at h; exact h.elim
  | ct r => rw [e] at h; exact h.elim
  | er r n ns vs => rw [e] at h; exact h
  | bad => rw [e] at h; exact h.elim
theorem rs_runT {n : Nat} {F : Rho → SR} {as : List D} (h : Ss (F (startR n as)) nR Q nR nR (fun _ => E)) : Rs (runF n true F as) Q E := by
  unfold runF
  cases e : F (startR n as) with
  | nx r => rw [e] at h; exact h.elim
  | rt d => rw [e] at h; exact h
  | bk r => rw [e] at h; exact h.elim
  | ct r => rw [e] at h; exact h.elim
  | er r n ns vs => rw [e] at h; exact h
  | bad => rw [e] at h; exact h.elim
theorem rs_runI {n : Nat} {cls : Str} {F : Rho → SR} {as : List D} (h : Ss (F (startI n cls as)) (fun r => ∃ d, r[0]? = some (some d) ∧ Q d) (fun _ => False) nR nR (fun _ => E)) : Rs (runI n cls F as) Q E := by
  unfold runI
  cases e : F (startI n cls as) with
  | nx r => rw [e] at h; obtain ⟨d, h1, h2⟩ := h; dsimp only; rw [h1]; exact h2
  | rt d => rw [e] at h; exact h.elim
  | bk r => rw [e] at h; exact h.elim
  | ct r => rw [e] at h; exact h.elim
  | er r n ns vs => rw [e] at h; exact h
  | bad => rw [e] at h; exact h.elim
/-- a try -/
theorem ss_try {isM : Str → Option Bool} {i : Nat} {Fb Fs : Rho → SR} {N B C : Rho → Prop} {R : D → Prop} {E : Rho → Str → List Str → List D → Prop} (h : Ss (Fb r) N R B C fun r' n ns vs => isM n = some true ∧ Ss (Fs (r'.set i (some (.obj n ns vs)))) (fun r => N (r.set i none)) R (fun r => B (r.set i none)) (fun r => C (r.set i none)) nE') : Ss (tryF isM i Fb Fs r) N R B C E := by
  unfold tryF
  cases e : Fb r with
  | nx r => rw [e] at h; exact h
  | rt d => rw [e] at h; exact h
  | bk r => rw [e] at h; exact h
  | ct r => rw [e] at h; exact h
  | bad => rw [e] at h; exact h
  | er r' n ns vs =>
    rw [e] at h
    obtain ⟨h1, h2⟩ := h
    dsimp only
    rw [h1]
    dsimp only
    cases e2 : Fs (r'.set i (some (.obj n ns vs))) with
    | nx r => rw [e2] at h2; exact h2
    | rt d => rw [e2] at h2; exact h2
    | bk r => rw [e2] at h2; exact h2
    | ct r => rw [e2] at h2; exact h2
    | bad => rw [e2] at h2; exact h2
    | er r n ns vs => rw [e2] at h2; exact h2.elim
end
end Dx
namespace Dx
open PySem L2
theorem sz5 : (100000 : Nat) ≤ sizeLine := by decide
theorem small_of {i : Int} (h : -1000000000000 < i) (h' : i < 1000000000000) : smallI i := by unfold smallI; omega
def Fit : List Int → List Int → Prop
  | [], [] => True
  | v :: vs, l :: ls => 0 ≤ v ∧ v < l ∧ Fit vs ls
  | _, _ => False
theorem Fit.cons {vs : List Int} {l : Int} {ls : List Int} (h : Fit vs (l :: ls)) : ∃ v us, vs = v :: us ∧ 0 ≤ v ∧ v < l ∧ Fit us ls := by
  cases vs with
  | nil => exact h.elim
  | cons v us => exact ⟨v, us, rfl, h⟩
theorem Fit.nil {vs : List Int} (h : Fit vs []) : vs = [] := by
  cases vs with
  | nil => rfl
  | cons v us => exact h.elim
theorem Fit.len : ∀ {vs ls : List Int}, Fit vs ls → vs.length = ls.length
  | [], [], _ => rfl
  | v :: vs, l :: ls, h => by simp [Fit.len h.2.2]
  | [], _ :: _, h => h.elim
  | _ :: _, [], h => h.elim
theorem Fit.snoc : ∀ {vs ls : List Int} {v l : Int}, Fit vs ls → 0 ≤ v → v < l → Fit (vs ++ [v]) (ls ++ [l])
  | [], [], v, l, _, h1, h2 => ⟨h1, h2, trivial⟩
  | a :: vs, b :: ls, v, l, h, h1, h2 => ⟨h.1, h.2.1, Fit.snoc h.2.2 h1 h2⟩
  | [], _ :: _, _, _, h, _, _ => h.elim
  | _ :: _, [], _, _, h, _, _ => h.elim
theorem Fit.get : ∀ {vs ls : List Int} {k : Nat} {l : Int}, Fit vs ls → ls[k]? = some l → ∃ v, vs[k]? = some v ∧ 0 ≤ v ∧ v < l
  | [], [], _, _, _, h => by simp at h
  | v :: vs, l :: ls, 0, l', h, e => by simp at e; subst e; exact ⟨v, by simp, h.1, h.2.1⟩
  | v :: vs, l :: ls, k + 1, l', h, e => by
    obtain ⟨w, h1, h2⟩ := Fit.get (k := k) h.2.2 (by simpa using e)
    exact ⟨w, by simpa using h1, h2⟩
  | [], _ :: _, _, _, h, _ => h.elim
  | _ :: _, [], _, _, h, _ => h.elim
abbrev iL (ns : List Int) : D := .lst (ns.map D.int)
theorem take_snoc {α : Type} {xs : List α} {i : Nat} {x : α} (h : xs[i]? = some x) : xs.take (i + 1) = xs.take i ++ [x] := by
  rw [List.take_add_one, h]; rfl
end Dx
end S_DxM
section S_DxN
set_option Elab.async false
set_option linter.all false
set_option maxRecDepth 100000
namespace Dx
open PySem L2
def endB (a b : List Nat) : Bool := decide (b.length ≤ a.length) && decide (a.drop (a.length - b.length) = b)
def startB (a b : List Nat) : Bool := decide (b.length ≤ a.length) && decide (a.take b.length = b)
theorem beq_dec (a b : List Nat) : (a == b) = decide (a = b) := by
  by_cases h : a = b
  · subst h; simp
  · simp [h]
theorem end_ST (a b : List Nat) : Txt.endswith (Sg a) (Sg b) = endB a b := by
  unfold Txt.endswith endB
  rw [PySem.StrLaws.subAt_eq, ST_len, ST_len, Nat.zero_add]
  show (decide (b.length ≤ a.length) && ((a.drop (a.length - b.length)).take b.length == b)) = _
  by_cases h : b.length ≤ a.length
  · rw [List.take_of_length_le (by rw [List.length_drop]; omega), beq_dec]
  · rw [decide_eq_false h]; rfl
theorem start_ST (a b : List Nat) : Txt.startswith (Sg a) (Sg b) = startB a b := by
  unfold Txt.startswith startB
  rw [PySem.StrLaws.subAt_eq, ST_len, ST_len, Nat.zero_add]
  show (decide (b.length ≤ a.length) && ((a.drop 0).take b.length == b)) = _
  rw [List.drop_zero, beq_dec]
/-- split at one sign -/
abbrev spc (c : Nat) (a : List Nat) : List (List Nat) := TL.spl [c] 0 [] a
theorem split_ST (a : List Nat) (c : Nat) (hc : c < 256) : Txt.split (Sg a) (Sg [c]) = (spc c a).map Sg := by
  refine TL.map_tl_inj ?_
  rw [TL.split_spl _ _ (by show [c] ≠ []; simp) (TL.kind_ok (by show #[c].all _ = true; simp [hc])), List.map_map]
  show spc c a = _
  rw [show TL.tl ∘ Sg = id from rfl, List.map_id]
section
variable {Q : D → Prop} {E : Str → List Str → List D → Prop} {a b : List Nat}
theorem rs_end (q : Q (.bl (endB a b))) : Rs (endD (.str (Sg a)) (.str (Sg b))) Q E := by
  show Q (.bl (Txt.endswith (Sg a) (Sg b)))
  rw [end_ST]; exact q
theorem rs_start (q : Q (.bl (startB a b))) : Rs (startD (.str (Sg a)) (.str (Sg b))) Q E := by
  show Q (.bl (Txt.startswith (Sg a) (Sg b)))
  rw [start_ST]; exact q
theorem rs_split {c : Nat} (h : c < 256 ∧ a.length + 2 ≤ sizeLine) (q : Q (.lst ((spc c a).map fun l => .str (Sg l)))) : Rs (splitD (.str (Sg a)) (.str (Sg [c]))) Q E := by
  refine rs_guard ⟨rfl, by rw [ST_len]; exact h.2⟩ ?_
  show Q (.lst (strsD (Txt.split (Sg a) (Sg [c]))))
  rw [split_ST a c h.1]
  unfold strsD
  rw [List.map_map]; exact q
end
section
variable {Q : D → Prop} {E : Str → List Str → List D → Prop}
theorem rs_isi_non_bool  (q : Q (.bl false)) : Rs (isiD "bool" .non) Q E := rs_isi rfl (by decide +kernel) q
theorem rs_isi_non_int  (q : Q (.bl false)) : Rs (isiD "int" .non) Q E := rs_isi rfl (by decide +kernel) q
theorem rs_isi_non_str  (q : Q (.bl false)) : Rs (isiD "str" .non) Q E := rs_isi rfl (by decide +kernel) q
theorem rs_isi_non_tuple  (q : Q (.bl false)) : Rs (isiD "tuple" .non) Q E := rs_isi rfl (by decide +kernel) q
theorem rs_isi_non_list  (q : Q (.bl false)) : Rs (isiD "list" .non) Q E := rs_isi rfl (by decide +kernel) q
theorem rs_isi_bl_bool {x : Bool} (q : Q (.bl true)) : Rs (isiD "bool" (.bl x)) Q E := rs_isi rfl (by decide +kernel) q
theorem rs_isi_bl_int {x : Bool} (q : Q (.bl true)) : Rs (isiD "int" (.bl x)) Q E := rs_isi rfl (by decide +kernel) q
theorem rs_isi_bl_str {x : Bool} (q : Q (.bl false)) : Rs (isiD "str" (.bl x)) Q E := rs_isi rfl (by decide +kernel) q
theorem rs_isi_bl_tuple {x : Bool} (q : Q (.bl false)) : Rs (isiD "tuple" (.bl x)) Q E := rs_isi rfl (by decide +kernel) q
theorem rs_isi_bl_list {x : Bool} (q : Q (.bl false)) : Rs (isiD "list" (.bl x)) Q E := rs_isi rfl (by decide +kernel) q
theorem rs_isi_int_bool {x : Int} (q : Q (.bl false)) : Rs (isiD "bool" (.int x)) Q E := rs_isi rfl (by decide +kernel) q
theorem rs_isi_int_int {x : Int} (q : Q (.bl true)) : Rs (isiD "int" (.int x)) Q E := rs_isi rfl (by decide +kernel) q
theorem rs_isi_int_str {x : Int} (q : Q (.bl false)) : Rs (isiD "str" (.int x)) Q E := rs_isi rfl (by decide +kernel) q
theorem rs_isi_int_tuple {x : Int} (q : Q (.bl false)) : Rs (isiD "tuple" (.int x)) Q E := rs_isi rfl (by decide +kernel) q
theorem rs_isi_int_list {x : Int} (q : Q (.bl false)) : Rs (isiD "list" (.int x)) Q E := rs_isi rfl (by decide +kernel) q
theorem rs_isi_str_bool {x : Str} (q : Q (.bl false)) : Rs (isiD "bool" (.str x)) Q E := rs_isi rfl (by decide +kernel) q
theorem rs_isi_str_int {x : Str} (q : Q (.bl false)) : Rs (isiD "int" (.str x)) Q E := rs_isi rfl (by decide +kernel) q
theorem rs_isi_str_str {x : Str} (q : Q (.bl true)) : Rs (isiD "str" (.str x)) Q E := rs_isi rfl (by decide +kernel) q
theorem rs_isi_str_tuple {x : Str} (q : Q (.bl false)) : Rs (isiD "tuple" (.str x)) Q E := rs_isi rfl (by decide +kernel) q
theorem rs_isi_str_list {x : Str} (q : Q (.bl false)) : Rs (isiD "list" (.str x)) Q E := rs_isi rfl (by decide +kernel) q
theorem rs_isi_lst_bool {x : List D} (q : Q (.bl false)) : Rs (isiD "bool" (.lst x)) Q E := rs_isi rfl (by decide +kernel) q
theorem rs_isi_lst_int {x : List D} (q : Q (.bl false)) : Rs (isiD "int" (.lst x)) Q E := rs_isi rfl (by decide +kernel) q
theorem rs_isi_lst_str {x : List D} (q : Q (.bl false)) : Rs (isiD "str" (.lst x)) Q E := rs_isi rfl (by decide +kernel) q
theorem rs_isi_lst_tuple {x : List D} (q : Q (.bl false)) : Rs (isiD "tuple" (.lst x)) Q E := rs_isi rfl (by decide +kernel) q
theorem rs_isi_lst_list {x : List D} (q : Q (.bl true)) : Rs (isiD "list" (.lst x)) Q E := rs_isi rfl (by decide +kernel) q
theorem rs_isi_tup_bool {x : List D} (q : Q (.bl false)) : Rs (isiD "bool" (.tup x)) Q E := rs_isi rfl (by decide +kernel) q
theorem rs_isi_tup_int {x : List D} (q : Q (.bl false)) : Rs (isiD "int" (.tup x)) Q E := rs_isi rfl (by decide +kernel) q
theorem rs_isi_tup_str {x : List D} (q : Q (.bl false)) : Rs (isiD "str" (.tup x)) Q E := rs_isi rfl (by decide +kernel) q
theorem rs_isi_tup_tuple {x : List D} (q : Q (.bl true)) : Rs (isiD "tuple" (.tup x)) Q E := rs_isi rfl (by decide +kernel) q
theorem rs_isi_tup_list {x : List D} (q : Q (.bl false)) : Rs (isiD "list" (.tup x)) Q E := rs_isi rfl (by decide +kernel) q
end
end Dx
end S_DxN
section S_DxQ
set_option Elab.async false
set_option linter.all false
set_option maxRecDepth 100000
namespace Dx
open PySem L2
section
variable {Q : D → Prop} {E : Str → List Str → List D → Prop} {r : Rho} {f f1 : Rho → Res D} {fs : Rho → Res (List D)} {n fl gl : Str} {ns : List Str} {vs ds es : List D} {F : List D → Res D} {x d : D}
theorem rs_star {Q : List D → Prop} (h : Rs (f r) (fun d => Rs (items d) (fun xs => Rs (fs r) (fun ys => Q (xs ++ ys)) E) E) E) : Rs (dStar f fs r) Q E := Rs.bind (h.impE (fun a q => Rs.bind (q.impE (fun _ q => Rs.bind q) fun _ _ _ z => z)) fun _ _ _ z => z)
theorem rs_itemsL {Q : List D → Prop} (q : Q ds) : Rs (items (.lst ds)) Q E := q
theorem rs_itemsT {Q : List D → Prop} (q : Q ds) : Rs (items (.tup ds)) Q E := q
theorem rs_zipL {Q : List D → Prop} (q : Q (pairs ds es)) : Rs (zipL [.lst ds, .lst es]) Q E := q
theorem rs_zipS {a b : List Nat} {Q : List D → Prop} (q : Q (pairs (a.map fun n => .str (Sg [n])) (b.map fun n => .str (Sg [n])))) : Rs (zipS [.str (Sg a), .str (Sg b)]) Q E := q
end
end Dx
end S_DxQ
section S_DxR
set_option Elab.async false
set_option linter.all false
set_option maxRecDepth 100000
set_option maxHeartbeats 2000000
namespace Dx
open PySem L2 ItX
open PyProof.Rows hiding St
def tyAll : List String := ["NoneType", "bool", "int", "str", "list", "tuple", "dict"]
structure IsC (K : PySem.W.Frag) (C : Addr) : Prop where
  cl : Cls K C
  ha : PySem.W.findIn K (.ref C) "__class__" = some (some (.builtin "object.__class__"))
  hn : PySem.W.specialIn K (.builtin "object.__class__") "__get__" = some (some (.builtin "getset_descriptor.__get__"))
  tk : PySem.W.takesIn K (.builtin "object.__class__") = some true
  hm : PySem.W.mroIn K C (.type "object") = some true
  self : PySem.W.kitOne K (.ref C) (.ref C) = some true
  no : ∀ t ∈ tyAll, PySem.W.kitOne K (.type t) (.ref C) = some false
theorem tyN_all {d : D} {t : String} (h : tyN d = some t) : t ∈ tyAll := by
  cases d <;> cases h <;> decide
def isiO (n : Str) (d : D) : Res D := if isCls n d = true then .ok (.bl true) else match tyN d with
  | some _ => .ok (.bl false)
  | none => .bad
section
variable {X : Cx} {c : Cf} {L G G' : List Ow} {f f1 f2 : Rho → Res D} {e o a b : Expr} {es : List Expr} {pos apos p : Pos} {fs : Rho → Res (List D)} {n : Str} {C : Addr} {F : List D → Res D} {rm : Bool} {k : Nat} {fa : Addr} {fd : FuncData} {ps : List Str}
theorem ty_ins {H : Hp} {q dx : Addr} {gs : List (Str × V)} (ic : IsC X.K C) (h : H q = some (.ins C dx gs)) : TyX X.K H (.ref q) (.ref C) := .base (.ins h ic.cl ic.ha ic.hn ic.tk ic.hm)
theorem de_isO {x : Str} {pT : Pos} (hcn : c.cm n = some C) (ic : IsC X.K C) (hm : X.mg "isinstance" = none) (hg : Gl X "isinstance") (gC : Gl X x) (mC : X.mg x = some (.ref C)) (ha : PE X e (tR c G f)) (hK : c.K = X.K := by rfl) (hd : (x == ("__debug__" : Str)) = false := by decide)
    (hs1 : starEach [e, .Name x pT] X.env = (false, eval e X.env) :: starEach [.Name x pT] X.env := by rfl) (hs2 : starEach [.Name x pT] X.env = (false, eval (.Name x pT) X.env) :: starEach [] X.env := by rfl) (hpl : (backTo pos (starEach [.Name x pT] X.env)).any (·.1) = false := by rfl) :
    PE X (.Call (.Name "isinstance" p) [e, .Name x pT] [] pos) (tV c G (dUn (isiO n) f)) := by
  have hT : PE X (.Name x pT) (tC (.ref C)) := pe_glob gC mC rfl hd
  refine pe_imp (pe_callB call_isi hg hm (by decide +kernel) (pa_cons ha (pa_cons hT pa_nil hs2) hs1) (he := hs1) (hpl := hpl)) fun σ H Q ⟨S0, H0, S, r, ok, p⟩ => rd_seq ok p fun d v S1 H1 w1 o1 m1 p1 => ?_
  unfold isiO at p1
  split at p1
  · rename_i hc
    obtain ⟨q, dx, gs, rfl, h2⟩ := of_isCls o1.ex hcn hc m1
    exact ⟨.ref q, .ref C, .ref C, .ref C, true, rfl, .own C, ty_ins ic h2, ic.self, p1.go o1.ex _ (.bl _)⟩
  · split at p1
    · rename_i t ht
      exact ⟨v, .ref C, .type t, .ref C, false, rfl, .own C, by rw [← hK]; exact RpB.ty m1 o1.ex ht, ic.no t (tyN_all ht), p1.go o1.ex _ (.bl _)⟩
    · exact p1.elim
def rCmpV (K : PySem.W.Frag) (C : Addr) (sp : Sp) : R2 := fun x y H Q => ∃ q dx gs t, x = V.ref q ∧ H q = some (.ins C dx gs) ∧ TyX K H y t ∧ PySem.W.notFirst K C t = true ∧ sp [x, y] H Q noX
theorem op_cmpV {op : CmpOp} {sp : Sp} (hop : ∀ a b, compareOp op a b = richCompare op a b) (hm : L2.Meth X.K C (cmpInfo op).2.1 fa) (F1 : FnOk X.prog X.w X.K X.mg X.base (L2.CX X.prog X.w) k fa fd ps sp) (hr : Room k X.A) (hb : L2.Binds X.K fd ps []) : OpR X (compareOp op) (rCmpV X.K C sp) := by
  intro pins s σ H x y v u Q I rx ry h
  obtain ⟨a, dx, gs, t, rfl, ha, ty, hn, q⟩ := h
  cases rx
  obtain ⟨ox, od, J, _⟩ := ins_at I ha
  obtain ⟨P, kx, hp, _⟩ := kit_of I ry ty
  obtain ⟨m, hF⟩ := I.fr
  rw [hop]
  refine PySem.W.cmp_K (op := op) (tb := t) hr.units0 hF I.ok.mod.kin J (kx.ty _ _ I.kIn hp) hn hm.at_ hm.fn (wpAny_mono (run_calm (us := [.ref a, u]) (vs := [.ref a, y]) F1 hr I.env0 hb I (.cons rfl (.cons ry .nil)) q) (fun w s' z => ?_) fun _ _ x => x)
  obtain ⟨z', H', I', rz, qz⟩ := z
  exact SlX.cmpback rz ⟨z', H', I', rz, qz⟩
def cmpV (n : Str) (F : List D → Res D) (x d : D) : Res D := if isCls n x = true then (if isCls n d = true ∨ (tyN d).isSome = true then (match F [x, d] with
  | .ok a => .ok a
  | _ => .bad) else .bad) else .bad
theorem os_cmpV (hcn : c.cm n = some C) (ic : IsC X.K C) (n1 : PySem.W.notFirst X.K C (.ref C) = true) (n2 : ∀ t ∈ tyAll, PySem.W.notFirst X.K C (.type t) = true) (hK : c.K = X.K := by rfl) : OpS c (mR c rm) (rCmpV X.K C (spD c.K c.cm [true, true] rm F)) (cmpV n F) := by
  intro σ S H x y d e Q ex hx hy p
  unfold cmpV at p
  split at p
  · rename_i hc
    obtain ⟨a, dx, gs, rfl, h2⟩ := of_isCls ex hcn hc hx
    split at p
    · rename_i hd
      split at p
      · rename_i r hF
        have fin := calm_sp (c := c) (rm := rm) (ms := [true, true]) (vs := [.ref a, y]) (ds := [d, e]) (Q := Q) ex ⟨hx, hy, trivial⟩ hF fun S' H' v w hb => p S' H' w v hb
        rcases hd with hd | hd
        · obtain ⟨b, dy, gs', rfl, h3⟩ := of_isCls ex hcn hd hy
          exact ⟨a, dx, gs, .ref C, rfl, h2, ty_ins ic h3, n1, fin⟩
        · obtain ⟨t, ht⟩ := Option.isSome_iff_exists.mp hd
          exact ⟨a, dx, gs, .type t, rfl, h2, by rw [← hK]; exact RpB.ty hy ex ht, n2 t (tyN_all ht), fin⟩
      · exact p.elim
    · exact p.elim
  · exact p.elim
def isBD (neg : Bool) : D → D → Res D
  | .bl x, .bl y => .ok (.bl (if neg then !decide (x = y) else decide (x = y)))
  | _, _ => .bad
theorem os_notB : OpS c (mV c) rNotB (isBD true) := by
  intro σ S H x y d e Q ex hx hy p
  unfold isBD at p
  split at p
  · cases hx.bl; cases hy.bl
    exact ⟨_, _, rfl, rfl, p.here ex (.bl _)⟩
  · exact p.elim
def keyD : D → Option Key
  | .int i => some (.inl i)
  | .str z => some (.inr z)
  | _ => none
def keyOf : Key → D
  | .inl i => .int i
  | .inr z => .str z
def getK {κ : Type} [DecidableEq κ] : List κ → List D → κ → Option D
  | k :: ks, v :: vs, x => if k = x then some v else getK ks vs x
  | _, _, _ => none
def putV {κ : Type} [DecidableEq κ] (ks : List κ) (vs : List D) (x : κ) (d : D) : List κ × List D := if (ks.any fun k => decide (k = x)) = true then (ks, List.zipWith (fun k v => if k = x then d else v) ks vs) else (ks ++ [x], vs ++ [d])
theorem key_v {K : PySem.W.Frag} {cm : CM} {S H : Hp} {v : V} {d : D} {k : Key} (h : RpB K cm S H v d) (q : keyD d = some k) : v = kV k := by
  cases d with
  | int i => cases q; exact h.int
  | str z => cases q; exact h.str
  | _ => cases q
theorem get_rp {κ : Type} [DecidableEq κ] {K : PySem.W.Frag} {cm : CM} {S : Hp} (k : κ) : ∀ {kvs : List (κ × V)} {ds : List D}, RpA K cm S (kvs.map (·.2)) ds →
    (∀ d, getK (kvs.map (·.1)) ds k = some d → ∃ v, valV kvs k = some v ∧ Rp K cm S v d) ∧ (getK (kvs.map (·.1)) ds k = none → valV kvs k = none)
  | [], ds, h => ⟨fun d q => by simp [getK] at q, fun _ => rfl⟩
  | (k', v') :: kvs, ds, h => by
    cases h with
    | @cons v vs d ds hd hr =>
      obtain ⟨g1, g2⟩ := get_rp k hr
      by_cases e : k' = k
      · rw [valV_pos (p := (k', v')) e]
        refine ⟨fun z q => ?_, fun q => ?_⟩
        · rw [List.map_cons, getK, if_pos e] at q
          cases q
          exact ⟨_, rfl, hd⟩
        · rw [List.map_cons, getK, if_pos e] at q
          cases q
      · rw [valV_neg (p := (k', v')) e]
        refine ⟨fun z q => ?_, fun q => ?_⟩
        · rw [List.map_cons, getK, if_neg e] at q
          exact g1 z q
        · rw [List.map_cons, getK, if_neg e] at q
          exact g2 q
theorem put_rp {κ : Type} [DecidableEq κ] {K : PySem.W.Frag} {cm : CM} {S : Hp} {k : κ} {v : V} {d : D} (hv : Rp K cm S v d) {kvs : List (κ × V)} {ds : List D} (h : RpA K cm S (kvs.map (·.2)) ds) :
    (putV (kvs.map (·.1)) ds k d).1 = (putK kvs k v).map (·.1) ∧ RpA K cm S ((putK kvs k v).map (·.2)) (putV (kvs.map (·.1)) ds k d).2 := by
  have hany : ((kvs.map (·.1)).any fun z => decide (z = k)) = (kvs.any fun kv => decide (kv.1 = k)) := by rw [List.any_map]; rfl
  unfold putV putK
  rw [hany]
  by_cases hm : (kvs.any fun kv => decide (kv.1 = k)) = true
  · rw [if_pos hm, if_pos hm]
    refine ⟨?_, ?_⟩
    · rw [List.map_map]
      refine List.map_congr_left fun p _ => ?_
      show p.1 = (if p.1 = k then (p.1, v) else p).1
      split <;> rfl
    · clear hm hany
      induction kvs generalizing ds with
      | nil => cases h; exact .nil
      | cons p kvs ih =>
        cases h with
        | @cons v' vs' d' ds' hd hr =>
          refine .cons ?_ (ih hr)
          show Rp K cm S (if p.1 = k then (p.1, v) else p).2 (if p.1 = k then d else d')
          split
          · exact hv
          · exact hd
  · rw [if_neg hm, if_neg hm]
    refine ⟨by simp, ?_⟩
    rw [List.map_append]
    exact h.app (.one hv)
/-- {} -/
def dD0 : Rho → Res D := fun _ => .ok (.dk [] [])
/-- k in d -/
def inK (neg : Bool) : D → D → Res D
  | k, .dk ks vs => match keyD k with
    | some x => .ok (.bl (if neg then !(getK ks vs x).isSome else (getK ks vs x).isSome))
    | none => .bad
  | _, _ => .bad
/-- list(d), len(d) -/
def listK : D → Res D
  | .dk ks _ => .ok (.lst (ks.map keyOf))
  | _ => .bad
def lenK : D → Res D
  | .dk ks _ => .ok (.int ks.length)
  | .dt ks _ => .ok (.int ks.length)
  | _ => .bad
/-- d[k] = v, d an own dict -/
def ownK (i : Nat) (r : Rho) : Res (List Key × List D) := match r[i]? with
  | some (some (.dk ks vs)) => .ok (ks, vs)
  | _ => .bad
def asK (d : D) : Res Key := match keyD d with
  | some k => .ok k
  | none => .bad
noncomputable def putF (i : Nat) (fk f : Rho → Res D) : Rho → SR := fun r => liftS r (f r) fun d => liftS r (ownK i r) fun o => liftS r (fk r) fun k => liftS r (asK k) fun x => guardS (o.1.length < sizeLine) (.nx (r.set i (some (.dk (putV o.1 o.2 x d).1 (putV o.1 o.2 x d).2))))
theorem ds_put (i : Nat) {x : Str} {pn p' : Pos} {ix : Expr} {fk : Rho → Res D} (hg : Gok c G) (hr : Room k X.A) (kk : kd G i = .o) (ho : PE X (.Name x pn) (tVar i)) (hi : PE X ix (tV c G fk)) (he : PE X e (tV c G f))
    (hs : swapsWith e (some (.Subscript (.Name x pn) ix p')) pos.line X.env = pure false := by rfl) : PS X (.Assign [.Subscript (.Name x pn) ix p'] e pos) (sD c L G G (putF i fk f)) :=
  ps_imp (ps_dput (by have := hr.units; omega) ho hi he hs) fun E σ H ⟨S0, H0, S, r, ok, p⟩ => st_seq hg ok p fun d v S1 H1 w1 o1 m1 p1 => by
    cases hK : ownK i r with
    | err n ns vs => exfalso; unfold ownK at hK; split at hK <;> cases hK
    | bad => rw [hK] at p1; exact p1.elim
    | ok o =>
      rw [hK] at p1
      unfold ownK at hK
      split at hK
      · rename_i ks vs hd
        cases hK
        obtain ⟨q, ho, s1, s2, s3, s4, s5⟩ := o1.own kk hd
        cases s5 with
        | @dk kvs _ _ hks hvs =>
          subst hks
          refine ⟨.ref q, s1, st_seq hg o1 p1 fun kd' kv S2 H2 w2 o2 m2 p2 => ?_⟩
          unfold asK at p2
          split at p2
          · rename_i xk hx
            have hxk : keyD kd' = some xk := hx
            obtain ⟨hl, p3⟩ := p2.gd
            have hq2 : H2 q = some (.dK kvs) := w2.h _ _ s2
            have ev : kv = kV xk := key_v (H := H2) (.inl m2) hxk
            subst ev
            have pr := put_rp (k := xk) (m1.mono w2.s) (hvs.mono w2.s)
            have hl' : kvs.length < sizeLine := by simpa using hl
            refine ⟨q, _, rfl, DPut.k hq2 hl', p3 σ S2 _ (o2.mut kk hd s1 (.dk pr.1 pr.2))⟩
          · exact p2.elim
      · cases hK
end
end Dx
end S_DxR
section S_DxI
set_option Elab.async false
set_option linter.all false
set_option maxRecDepth 100000
set_option maxHeartbeats 2000000
namespace Dx
open PySem L2 ItX PyProof.Rows
section
variable {X : Cx} {c : Cf} {L G G' : List Ow} {a b e : Expr} {pos : Pos} {f f1 f2 : Rho → Res D} {k : Nat}
def keysD : List D → Option (List Key)
  | [] => some []
  | d :: ds => match keyD d, keysD ds with
    | some k, some ks => some (k :: ks)
    | _, _ => none
def keyT : D → Option (List Key)
  | .tup ds => keysD ds
  | _ => none
def tupOf (ks : List Key) : D := .tup (ks.map keyOf)
theorem keys_v {K : PySem.W.Frag} {cm : CM} {S : Hp} : ∀ {vs : List V} {ds : List D} {ks : List Key}, RpA K cm S vs ds → keysD ds = some ks → vs = ks.map kV
  | _, [], ks, h, q => by cases h; cases q; rfl
  | _, d :: ds, ks, h, q => by
    cases h with | @cons v vs _ _ hd hr =>
    unfold keysD at q
    split at q
    · rename_i k ks' h1 h2
      cases q
      rw [List.map_cons, ← keys_v hr h2, key_v (H := S) (.inl hd) h1]
    · cases q
theorem key_rp {K : PySem.W.Frag} {cm : CM} {S : Hp} : ∀ ks : List Key, RpA K cm S (ks.map kV) (ks.map keyOf)
  | [] => .nil
  | k :: ks => .cons (by cases k with | inl i => exact .int i | inr z => exact .str z) (key_rp ks)
theorem keyT_v {K : PySem.W.Frag} {cm : CM} {S H : Hp} {v : V} {d : D} {ks : List Key} (h : RpB K cm S H v d) (e : Ex S H) (q : keyT d = some ks) : ∃ p, v = .ref p ∧ H p = some (.tup (ks.map kV)) := by
  cases d with
  | tup ds =>
    obtain ⟨p, xs, rfl, _, r, hp⟩ := h.tup e
    have := keys_v r q
    subst this
    exact ⟨p, rfl, e _ _ hp⟩
  | _ => cases q
/-- a tuple of the heap becomes one that stays -/
theorem Fwd.tup {S H : Hp} (e : Ex S H) {q : Addr} {xs : List V} (h : H q = some (.tup xs)) : ∃ S', Fwd S H S' H ∧ S' q = some (.tup xs) := by
  cases hs : S q with
  | some o =>
    have := e _ _ hs
    rw [h] at this
    cases this
    exact ⟨S, Fwd.refl e, hs⟩
  | none =>
    refine ⟨upd S q (.tup xs), ⟨Ex.new hs, Ex.refl, fun a u ha => ?_, fun a u ha m => ?_⟩, upd_same⟩
    · by_cases hh : a = q
      · subst hh; rw [upd_same] at ha; rw [h]; exact ha
      · rw [upd_ne hh] at ha; exact e a u ha
    · by_cases hh : a = q
      · subst hh; exact .inr ⟨xs, h⟩
      · rw [upd_ne hh, m] at ha; cases ha
def itemsK : D → Res (List D)
  | .dt ks _ => .ok (ks.map tupOf)
  | .dk ks _ => .ok (ks.map keyOf)
  | _ => .bad
variable {tg : Expr}
theorem gives_keysT {H0 S : Hp} {q : Addr} {w : Obj} {kvs : List (List Key × V)} (h : S q = some (.frz w (.dT kvs))) : Gives c H0 S (Itkt q w kvs) ((kvs.map (·.1)).map tupOf) := by
  refine ⟨_, _, by rw [List.length_map, List.length_map]; exact walk_keysT (d := q) (o := w) (kvs := kvs), fun S'' H'' e1 e2 _ => e2 _ _ (e1 _ _ h), fun i S1 H1 x H2 hi e1 e2 y => ?_⟩
  obtain ⟨rfl, k, v, p, hx, rfl, hp⟩ := y
  obtain ⟨S2, fw, g⟩ := Fwd.tup e2 hp
  exact ⟨S2, tupOf k, fw, by rw [List.getElem?_map, List.getElem?_map, hx]; rfl, .tup g (key_rp k)⟩
theorem gives_keys {H0 S : Hp} {q : Addr} {w : Obj} {kvs : List (Key × V)} (h : S q = some (.frz w (.dK kvs))) : Gives c H0 S (Itk q w kvs) ((kvs.map (·.1)).map keyOf) := by
  refine ⟨_, _, by rw [List.length_map, List.length_map]; exact walk_keys (d := q) (o := w) (kvs := kvs), fun S'' H'' e1 e2 _ => e2 _ _ (e1 _ _ h), fun i S1 H1 x H2 hi e1 e2 y => ?_⟩
  obtain ⟨rfl, k, v, hx, rfl⟩ := y
  exact ⟨S1, keyOf k, Fwd.refl e2, by rw [List.getElem?_map, List.getElem?_map, hx]; rfl, by cases k with | inl i => exact .int i | inr z => exact .str z⟩
theorem di_keys (he : PE X e (tV c G f)) : PI X tg e (iD c G (dIt itemsK f)) := pi_imp (pi_keys he) fun σ H R ⟨S0, H0, S, r, ok, p⟩ => rd_seq ok p fun d v S1 H1 w1 o1 m1 p1 => by
  cases d with
  | dt ks vs =>
    cases m1 with | @dt q w kvs _ _ h hk rr =>
    subst hk
    exact ⟨q, w, rfl, .inr ⟨kvs, o1.ex _ _ h, p1.go o1.ex _ (gives_keysT h)⟩⟩
  | dk ks vs =>
    cases m1 with | @dk q w kvs _ _ h hk rr =>
    subst hk
    exact ⟨q, w, rfl, .inl ⟨kvs, o1.ex _ _ h, p1.go o1.ex _ (gives_keys h)⟩⟩
  | _ => exact p1.elim
end
end Dx
end S_DxI
section S_DxJ
set_option Elab.async false
set_option linter.all false
set_option maxRecDepth 100000
set_option maxHeartbeats 2000000
namespace Dx
open PySem L2 ItX PyProof.Rows
theorem tyAll_of {p : String → Prop} (h1 : p "NoneType") (h2 : p "bool") (h3 : p "int") (h4 : p "str") (h5 : p "list") (h6 : p "tuple") (h7 : p "dict") : ∀ t ∈ tyAll, p t := fun t ht => by
  simp only [tyAll, List.mem_cons, List.not_mem_nil, or_false] at ht
  rcases ht with rfl | rfl | rfl | rfl | rfl | rfl | rfl <;> assumption
/-- a def of the text, whatever its defaults are -/
structure FunE (K : PySem.W.Frag) (x qual : Str) (st : Stmt) (f : Addr) (fd : FuncData) : Prop where
  ex : ∃ (oc : Value) (od : Option Addr) (dV kV doc pm : Value) (an : Option Addr) (cdv ct : Value) (osl : Array (Option Value)),
    fd = PySem.W.fnOf x qual (defArgs st) (defBody st) (defScope st) dV kV doc pm an cdv ct ∧ K.lookup f = some ⟨oc, od, .func fd, osl⟩ ∧ PySem.W.codeIn K cdv qual = true
  kp : PySem.W.keepIn K (.ref f) = true
section
variable {P : Program} {w : World} {K : PySem.W.Frag} {mg : Str → Option Value} {base : Heap} {cm : CM}
theorem FunE.okX {x qual : Str} {st : Stmt} {f : Addr} {fd : FuncData} {N ps : List Str} {k : Nat} {sp : Sp} (F : FunE K x qual st f fd) (S : FnScope N ps (defScope st)) (len : ∀ vs H Q E, sp vs H Q E → vs.length = ps.length)
    (hbody : ∀ (cdv : Value) (A : Around) (outer : List Env) (s : Shared) (H : Hp) (vs : List V) (Q : VK) (E : XK), Room k (A.deeper (envOfC qual (defScope st) s.heap.objs.size f cdv)) → sp vs H Q E →
      ∃ t, PSs (cxOf (L2.CX P w) P w K mg base N qual (defScope st) f cdv A outer s H E) (defBody st) t ∧ t { nx := fun _ H' => Q .non H', rt := Q } (start N vs) H) : FnOk P w K mg base (L2.CX P w) (k + 1) f fd ps sp := by
  obtain ⟨oc, od, dV, kV, doc, pm, an, cdv, ct, osl, rfl, lk, hcd⟩ := F.ex
  exact fn_of lk hcd S len fun A outer s H vs Q E hr hsp => hbody cdv A outer s H vs Q E hr hsp
end
end Dx
end S_DxJ
section S_DxH
set_option Elab.async false
set_option linter.all false
set_option maxRecDepth 100000
set_option maxHeartbeats 4000000
namespace Dx
open PySem L2 PyProof.Rows Srt SrtO
end Dx
end S_DxH
section S_DxL
set_option Elab.async false
set_option linter.all false
set_option maxRecDepth 100000
set_option maxHeartbeats 4000000
namespace Dx
open PySem L2
end Dx
end S_DxL
section S_DxK
set_option Elab.async false
set_option linter.all false
set_option maxRecDepth 100000
set_option maxHeartbeats 2000000
namespace Dx
open PySem L2 PyProof.Rows ClX
end Dx
namespace Dx
open PySem L2
end Dx
end S_DxK
section S_DxAA
set_option Elab.async false
set_option linter.all false
set_option maxRecDepth 100000
set_option maxHeartbeats 2000000
namespace Dx
open PySem L2
section
variable {X : Cx} {c : Cf} {L G G' : List Ow} {f f1 f2 : Rho → Res D} {a b e : Expr} {pos : Pos} {tg : Expr}
def insI (p : Int) : List Int → List Int
  | [] => [p]
  | x :: xs => if x < p then x :: insI p xs else p :: x :: xs
def sortI : List Int → List Int
  | [] => []
  | x :: xs => insI x (sortI xs)
def sortID : D → Res D
  | .lst ds => match allInt ds with
    | some is => .ok (.lst ((sortI is).map D.int))
    | none => .bad
  | _ => .bad
end
section
variable {Q : D → Prop} {E : Str → List Str → List D → Prop} {i j s : Int}
theorem allInt_map : ∀ ns : List Int, allInt (ns.map D.int) = some ns
  | [] => rfl
  | n :: ns => by rw [List.map_cons, allInt, allInt_map ns]
theorem rs_sortI {ns : List Int} (q : Q (.lst ((sortI ns).map D.int))) : Rs (g1 sortID [.lst (ns.map D.int)]) Q E := by
  show Rs (match allInt (ns.map D.int) with | some is => Res.ok (.lst ((sortI is).map D.int)) | none => .bad) Q E
  rw [allInt_map]; exact q
theorem rs_g2 {g : Int → Int → Int} (q : Q (.int (g i j))) : Rs (g2 (intsD g) [.int i, .int j]) Q E := q
theorem rs_sum {ns : List Int} (q : Q (.int ns.sum)) : Rs (g1 sumD [.lst (ns.map D.int)]) Q E := by
  show Rs (match allInt (ns.map D.int) with | some is => Res.ok (.int is.sum) | none => .bad) Q E
  rw [allInt_map]; exact q
end
end Dx
end S_DxAA
section S_DxAB
set_option Elab.async false
set_option linter.all false
set_option maxRecDepth 100000
set_option maxHeartbeats 4000000
namespace Dx
open PySem L2 PyProof.Rows Srt SrtO
end Dx
end S_DxAB
section S_DxAC
set_option Elab.async false
set_option linter.all false
set_option maxRecDepth 100000
set_option maxHeartbeats 4000000
namespace Dx
open PySem L2
section
variable {X : Cx} {c : Cf} {L G G' G'' : List Ow} {f f1 f2 : Rho → Res D} {a b e e2 e3 : Expr} {pos : Pos} {tg : Expr} {k : Nat}
def getE (d k e : D) : Res D := match d with
  | .dk ks vs => match keyD k with
    | some x => .ok ((getK ks vs x).getD e)
    | none => .bad
  | .dt ks vs => match keyT k with
    | some x => .ok ((getK ks vs x).getD e)
    | none => .bad
  | _ => .bad
def getZ (d k : D) : Res D := match d with
  | .dk ks vs => match keyD k with
    | some x => match getK ks vs x with
      | some d => .ok d
      | none => .bad
    | none => .bad
  | .dt ks vs => match keyT k with
    | some x => match getK ks vs x with
      | some d => .ok d
      | none => .bad
    | none => .bad
  | _ => .bad
theorem de_getZ (hr : Room k X.A) (ha : PE X a (tR c G f1)) (hb : PE X b (tR c G f2)) (hs : NoSl b) : PE X (.Subscript a b pos) (tV c G (dOp getZ f1 f2)) :=
  pe_imp (pe_dget (by have := hr.units; omega) ha hb hs) fun σ H Q ⟨S0, H0, S, r, ok, p⟩ => rd_seq ok p fun d v S1 H1 w1 o1 m1 p1 => rd_seq o1 p1 fun e u S2 H2 w2 o2 m2 p2 => by
    have m1 := RpB.mono m1 w2.s w2.h
    unfold getZ at p2
    split at p2
    · rename_i ks vs
      split at p2
      · rename_i x hx
        split at p2
        · rename_i z hz
          obtain ⟨q, kvs, rfl, h1, rfl, h3⟩ := RpB.dk m1 o2.ex
          obtain ⟨w, g1, g2⟩ := (get_rp x h3).1 z hz
          refine ⟨q, w, rfl, ?_, p2.go o2.ex _ g2⟩
          rw [key_v m2 hx, ← g1]
          exact .inl ⟨_, _, h1, rfl, rfl⟩
        · exact p2.elim
      · exact p2.elim
    · rename_i ks vs
      split at p2
      · rename_i x hx
        split at p2
        · rename_i z hz
          obtain ⟨q, kvs, rfl, h1, rfl, h3⟩ := RpB.dt m1 o2.ex
          obtain ⟨w, g1, g2⟩ := (get_rp x h3).1 z hz
          obtain ⟨b, rfl, hb⟩ := keyT_v m2 o2.ex hx
          exact ⟨q, w, rfl, .inr ⟨_, x, b, h1, rfl, hb, g1.symm⟩, p2.go o2.ex _ g2⟩
        · exact p2.elim
      · exact p2.elim
    · exact p2.elim
abbrev FP := (Rho → Res D) × (Rho → Res D)
def dPairs : List FP → Rho → Res (List (D × D))
  | [], _ => .ok []
  | p :: ps, r => (p.1 r).bind fun k => (p.2 r).bind fun d => (dPairs ps r).bind fun kvs => .ok ((k, d) :: kvs)
def RpPs (c : Cf) (S : Hp) : List (V × V) → List (D × D) → Prop
  | [], [] => True
  | v :: vs, d :: ds => Rp c.K c.cm S v.1 d.1 ∧ Rp c.K c.cm S v.2 d.2 ∧ RpPs c S vs ds
  | _, _ => False
def mergeD : List Key → List D → List (D × D) → Res D
  | ks, vs, [] => .ok (.dk ks vs)
  | ks, vs, (k, d) :: kvs => match keyD k with
    | some x => mergeD (putV ks vs x d).1 (putV ks vs x d).2 kvs
    | none => .bad
def dDisp (ps : List FP) : Rho → Res D := fun r => (dPairs ps r).bind fun kvs => mergeD [] [] kvs
theorem RpPs.len {S : Hp} : ∀ {vs : List (V × V)} {ds : List (D × D)}, RpPs c S vs ds → vs.length = ds.length
  | [], [], _ => rfl
  | v :: vs, d :: ds, h => by simp [RpPs.len h.2.2]
  | [], _ :: _, h => h.elim
  | _ :: _, [], h => h.elim
def allBl : List D → Option (List Bool)
  | [] => some []
  | .bl b :: ds => match allBl ds with
    | some bs => some (b :: bs)
    | none => none
  | _ => none
def allD : D → Res D
  | .lst ds => match allBl ds with
    | some bs => .ok (.bl (bs.all id))
    | none => .bad
  | _ => .bad
def inKt (neg : Bool) (d e : D) : Res D := match e with
  | .kt ds => match inFlat d ds with
    | some b => .ok (.bl (if neg then !b else b))
    | none => .bad
  | _ => .bad
theorem os_inKt {neg : Bool} : OpS c (mV c) (rIn c.K neg) (inKt neg) := fun σ S H x y d e Q ex hx hy p => by
  unfold inKt at p
  cases e with
  | kt ds =>
    dsimp only at p
    split at p
    · rename_i b hb
      obtain ⟨q, xs, rfl, a1, r1, s1⟩ := hy.kt ex
      obtain ⟨z1, z2, z3⟩ := of_inFlat hx r1 hb
      refine ⟨q, xs, rfl, .inr a1, z1, z2, ?_⟩
      rw [z3]; exact p.here ex (.bl _)
    · exact p.elim
  | _ => exact p.elim
theorem kt_mk {K : PySem.W.Frag} {cm : CM} {A : Addr} {od : Option Addr} {n : Nat} {sl : Array (Option Value)} {us : List Value} {xs : List V} {ds : List D} (l : K.lookup A = some ⟨.type "tuple", od, .seq us.toArray n, sl⟩) (hz : us.length ≤ 1000) (hv : Vals xs us) {S : Hp} (hr : RpA K cm S xs ds) : Rp K cm S (.ref A) (.kt ds) :=
  .kt (.inr ⟨_, us.toArray, n, l, rfl, rfl, by rw [sizeLine_eq]; simp; omega, by simpa using hv⟩) hr
def parF3 (i j l : Nat) (f1 f2 f3 : Rho → Res D) : Rho → SR := fun r => liftS r (dCons f1 (dCons f2 (dCons f3 dNil)) r) fun ds => match ds with
  | [d, e, g] => .nx (((r.set i (some d)).set j (some e)).set l (some g))
  | _ => .bad
end
section
variable {Q : D → Prop} {E : Str → List Str → List D → Prop} {r : Rho} {f f1 f2 f3 : Rho → Res D} {d k e : D}
theorem allBl_map : ∀ bs : List Bool, allBl (bs.map D.bl) = some bs
  | [] => rfl
  | b :: bs => by rw [List.map_cons, allBl, allBl_map bs]
theorem rs_all {bs : List Bool} (q : Q (.bl (bs.all id))) : Rs (g1 allD [.lst (bs.map D.bl)]) Q E := by
  show Rs (match allBl (bs.map D.bl) with | some bs => Res.ok (.bl (bs.all id)) | none => .bad) Q E
  rw [allBl_map]; exact q
end
section
variable {N B C : Rho → Prop} {R : D → Prop} {E : Rho → Str → List Str → List D → Prop} {r : Rho} {f f1 f2 f3 : Rho → Res D} {i j l : Nat}
theorem ss_par3 (h : Rs (f1 r) (fun d => Rs (f2 r) (fun e => Rs (f3 r) (fun g => N (((r.set i (some d)).set j (some e)).set l (some g))) (E r)) (E r)) (E r)) : Ss (parF3 i j l f1 f2 f3 r) N R B C E :=
  ss_lift (rs_cons (h.impE (fun d q => rs_cons (q.impE (fun e q => rs_cons (q.impE (fun g q => rs_nil q) fun _ _ _ z => z)) fun _ _ _ z => z)) fun _ _ _ z => z))
end
end Dx
end S_DxAC
section S_DxAD
set_option Elab.async false
set_option linter.all false
set_option maxRecDepth 100000
set_option maxHeartbeats 2000000
namespace Dx
open PySem L2
section
variable {X : Cx} {c : Cf} {G : List Ow} {pos : Pos}
theorem de_strL {x y : Str} {j : Nat} (h : x = y) : PE X (.Constant (.str x) j pos) (tV c G (dC (.str y))) := by subst h; exact de_str
end
theorem log_small {i : Int} (h : 0 ≤ i) (h1 : i < 1000000000000) : i.natAbs.log2 < 1920 := by
  by_cases h0 : i.natAbs = 0
  · rw [h0]; decide
  · have : i.natAbs < 2 ^ 40 := by omega
    have := (Nat.log2_lt h0).mpr this
    omega
theorem num_ST {i : Int} (h : 0 ≤ i) : (toString i : Str) = Sg (TL.numL i.toNat) := by
  have e : i = ((i.toNat : Nat) : Int) := by omega
  refine TL.ext_tl ?_
  have := TL.tl_num i.toNat
  rw [← e] at this
  exact this
theorem lt_one {a b : Nat} : ([a] < [b]) ↔ a < b := by
  constructor
  · intro h
    cases h with
    | rel h => exact h
    | cons h => cases h
  · intro h; exact List.Lex.rel h
section
variable {Q : D → Prop} {E : Str → List Str → List D → Prop} {i j : Int} {a b l : List Nat} {r : Rho} {f : Rho → Res D} {g : Str → Rho → Res D} {acc : List Nat} {d : D}
theorem rs_strI (h : 0 ≤ i ∧ i < 1000000000000) (q : Q (.str (Sg (TL.numL i.toNat)))) : Rs (g1 strD [.int i]) Q E :=
  rs_guard (log_small h.1 h.2) (by show Q (.str (toString i)); rw [num_ST h.1]; exact q)
theorem rs_fmtI (h : 0 ≤ i ∧ i < 1000000000000) (q : Q (.str (Sg (TL.numL i.toNat)))) : Rs (fmtD (.int i)) Q E :=
  rs_guard (log_small h.1 h.2) (by show Q (.str (toString i)); rw [num_ST h.1]; exact q)
theorem rs_fmtS (h : a.length ≤ sizeLine) (q : Q (.str (Sg a))) : Rs (fmtD (.str (Sg a))) Q E := rs_guard (by rw [ST_len]; exact h) q
theorem rs_jnil (q : Q (.str (Sg acc))) : Rs (dJnil (Sg acc) r) Q E := q
theorem rs_jcons (h : Rs (f r) (fun d => Rs (asS d) (fun y => ∃ l, y = Sg l ∧ acc.length + l.length ≤ 100000 ∧ Rs (g (Sg (acc ++ l)) r) Q E) E) E) : Rs (dJcons f g (Sg acc) r) Q E :=
  Rs.bind (h.impE (fun d q => Rs.bind (q.impE (fun y q => by
    obtain ⟨l, rfl, h1, h2⟩ := q
    rw [ST_app]
    exact rs_guard (by rw [ST_len, List.length_append]; exact Nat.le_trans h1 sz5) h2) fun _ _ _ z => z)) fun _ _ _ z => z)
theorem rs_asSJ {l : List Nat} (h : acc.length + l.length ≤ 100000) (k : Rs (g (Sg (acc ++ l)) r) Q E) : Rs (asS (.str (Sg l))) (fun y => ∃ l, y = Sg l ∧ acc.length + l.length ≤ 100000 ∧ Rs (g (Sg (acc ++ l)) r) Q E) E := ⟨l, rfl, h, k⟩
theorem rs_dJoin (h : Rs (g (Sg []) r) Q E) : Rs (dJoin g r) Q E := h
theorem rs_ord {n : Nat} (q : Q (.int n)) : Rs (g1 ordX [.str (Sg [n])]) Q E := rs_guard (by rw [ST_len]; rfl) q
theorem rs_leS {m n : Nat} (q : Q (.bl (decide (m ≤ n)))) : Rs (leD (.str (Sg [m])) (.str (Sg [n]))) Q E := by
  show Q (.bl (!decide ([n] < [m])))
  rw [show (!decide ([n] < [m])) = decide (m ≤ n) from by
    rw [Bool.eq_iff_iff]
    simp only [Bool.not_eq_true', decide_eq_false_iff_not, decide_eq_true_eq, lt_one]
    omega]
  exact q
theorem inFlat_ints (i : Int) (ns : List Int) : inFlat (.int i) (ns.map D.int) = some (decide (i ∈ ns)) := by
  have e : flatDs (ns.map D.int) = some (ns.map V.int) := by
    induction ns with
    | nil => rfl
    | cons n ns ih => rw [List.map_cons, flatDs, ih]; rfl
  unfold inFlat
  rw [e]
  show some (inV (V.int i) (ns.map V.int)) = _
  congr 1
  induction ns with
  | nil => rfl
  | cons n ns ih =>
    have e : flatDs (ns.map D.int) = some (ns.map V.int) := by
      clear ih e
      induction ns with
      | nil => rfl
      | cons n ns ih => rw [List.map_cons, flatDs, ih]; rfl
    have ih := ih e
    unfold inV at ih ⊢
    rw [List.map_cons, List.any_cons, ih]
    show (decide (n = i) || decide (i ∈ ns)) = _
    by_cases h : n = i
    · subst h; simp
    · have h' : ¬ i = n := fun z => h z.symm
      simp [h, h']
theorem rs_inKI {neg : Bool} {ns : List Int} (q : Q (.bl (if neg then !decide (i ∈ ns) else decide (i ∈ ns)))) : Rs (inKt neg (.int i) (.kt (ns.map D.int))) Q E := by
  show Rs (match inFlat (.int i) (ns.map D.int) with | some b => Res.ok (D.bl (if neg then !b else b)) | none => .bad) Q E
  rw [inFlat_ints]; exact q
theorem rs_inI {ns : List Int} (q : Q (.bl (decide (i ∈ ns)))) : Rs (inD (.int i) (.lst (ns.map D.int))) Q E := by
  show Rs ((inLst (.int i) (ns.map D.int)).bind _) Q E
  unfold inLst
  rw [inFlat_ints]; exact q
theorem rs_ninI {ns : List Int} (q : Q (.bl (!decide (i ∈ ns)))) : Rs (ninD (.int i) (.lst (ns.map D.int))) Q E := by
  show Rs ((inLst (.int i) (ns.map D.int)).bind _) Q E
  unfold inLst
  rw [inFlat_ints]; exact q
end
abbrev TD := List (List Nat × D)
def kS (a : List Nat) : Key := .inr (Sg a)
theorem kS_inj {a b : List Nat} : kS a = kS b ↔ a = b := ⟨fun h => by injection h with h; exact ST_inj.mp h, fun h => by rw [h]⟩
def dkT (T : TD) : D := .dk (T.map fun p => kS p.1) (T.map (·.2))
def lk (T : TD) (a : List Nat) : Option D := (T.find? fun p => decide (p.1 = a)).map (·.2)
theorem lk_cons (p : List Nat × D) (T : TD) (a : List Nat) : lk (p :: T) a = if p.1 = a then some p.2 else lk T a := by
  unfold lk
  rw [List.find?_cons]
  by_cases h : p.1 = a
  · rw [if_pos h, decide_eq_true h]; rfl
  · rw [if_neg h, decide_eq_false h]
theorem getK_T (T : TD) (a : List Nat) : getK (T.map fun p => kS p.1) (T.map (·.2)) (kS a) = lk T a := by
  induction T with
  | nil => rfl
  | cons p T ih =>
    rw [List.map_cons, List.map_cons, getK, ih, lk_cons]
    by_cases h : p.1 = a
    · rw [if_pos (kS_inj.mpr h), if_pos h]
    · rw [if_neg (fun z => h (kS_inj.mp z)), if_neg h]
theorem lk_isSome {T : TD} {a : List Nat} : (lk T a).isSome = decide (a ∈ T.map (·.1)) := by
  induction T with
  | nil => rfl
  | cons p T ih =>
    rw [lk_cons, List.map_cons]
    by_cases h : p.1 = a
    · rw [if_pos h]; simp [h]
    · have h' : ¬ a = p.1 := fun z => h z.symm
      rw [if_neg h, ih]; simp [h']
section
variable {Q : D → Prop} {E : Str → List Str → List D → Prop} {T : TD} {a : List Nat} {d e : D} {r : Rho}
theorem rs_inTk {neg : Bool} (q : Q (.bl (if neg then !decide (a ∈ T.map (·.1)) else decide (a ∈ T.map (·.1))))) : Rs (inK neg (.str (Sg a)) (dkT T)) Q E := by
  show Q (.bl (if neg then !(getK (T.map fun p => kS p.1) (T.map (·.2)) (kS a)).isSome else (getK (T.map fun p => kS p.1) (T.map (·.2)) (kS a)).isSome))
  rw [getK_T, lk_isSome]; exact q
theorem rs_getET (q : Q ((lk T a).getD e)) : Rs (getE (dkT T) (.str (Sg a)) e) Q E := by
  show Q ((getK (T.map fun p => kS p.1) (T.map (·.2)) (kS a)).getD e)
  rw [getK_T]; exact q
theorem rs_dD0 (q : Q (dkT [])) : Rs (dD0 r) Q E := q
theorem rs_listTk (q : Q (.lst (T.map fun p => .str (Sg p.1)))) : Rs (g1 listK [dkT T]) Q E := by
  show Q (.lst ((T.map fun p => kS p.1).map keyOf))
  rw [List.map_map]; exact q
theorem rs_lenTk (q : Q (.int T.length)) : Rs (g1 lenK [dkT T]) Q E := by
  show Q (.int (T.map fun p => kS p.1).length)
  rw [List.length_map]; exact q
theorem rs_itTk {Q : List D → Prop} (q : Q (T.map fun p => .str (Sg p.1))) : Rs (itemsK (dkT T)) Q E := by
  show Q ((T.map fun p => kS p.1).map keyOf)
  rw [List.map_map]; exact q
end
section
variable {Q : D → Prop} {E : Str → List Str → List D → Prop} {r : Rho} {fk fv : Rho → Res D} {ps : List FP}
theorem rs_disp (h : Rs (dPairs ps r) (fun kvs => Rs (mergeD [] [] kvs) Q E) E) : Rs (dDisp ps r) Q E := Rs.bind h
theorem rs_pnil {Q : List (D × D) → Prop} (q : Q []) : Rs (dPairs [] r) Q E := q
theorem rs_pcons {Q : List (D × D) → Prop} (h : Rs (fk r) (fun k => Rs (fv r) (fun d => Rs (dPairs ps r) (fun kvs => Q ((k, d) :: kvs)) E) E) E) : Rs (dPairs ((fk, fv) :: ps) r) Q E :=
  Rs.bind (h.impE (fun k q => Rs.bind (q.impE (fun d q => Rs.bind (q.impE (fun _ z => z) fun _ _ _ z => z)) fun _ _ _ z => z)) fun _ _ _ z => z)
end
section
variable {Q : D → Prop} {E : Str → List Str → List D → Prop} {r : Rho} {i : Nat} {n f : Str} {ns : List Str} {vs : List D} {d : D}
theorem rs_isX {isM : Str → Option Bool} {b : Bool} (h1 : r[i]? = some (some (.obj n ns vs))) (h2 : isM n = some b) (q : Q (.bl b)) : Rs (dIsX isM i r) Q E := by
  unfold dIsX
  rw [h1]
  dsimp only
  rw [h2]
  exact q
theorem rs_xf (h1 : r[i]? = some (some (.obj n ns vs))) (h2 : lookF ns vs f = some d) (q : Q d) : Rs (dXf i f r) Q E := by
  unfold dXf
  rw [h1]
  dsimp only
  rw [h2]
  exact q
end
section
variable {N B C : Rho → Prop} {R : D → Prop} {E : Rho → Str → List Str → List D → Prop} {r : Rho} {t u : Rho → Res Bool} {F K : Rho → SR}
/-- if t or u: F else: K, one test after the other -/
theorem ss_ifo (h : Rs (t r) (fun a => (a = true → Ss (F r) N R B C E) ∧ (a = false → Ss (ifF u F K r) N R B C E)) (E r)) : Ss (ifF (dOr t u) F K r) N R B C E := by
  unfold ifF
  refine ss_lift ?_
  refine rs_orc (h.impE (fun a q => ⟨fun ha => ?_, fun ha => ?_⟩) fun _ _ _ z => z)
  · exact q.1 ha
  · have q := q.2 ha
    unfold ifF at q
    cases hu : u r with
    | ok b => rw [hu] at q; exact q
    | err n ns vs => rw [hu] at q; exact q
    | bad => rw [hu] at q; exact q
theorem ss_ifa (h : Rs (t r) (fun a => (a = true → Ss (ifF u F K r) N R B C E) ∧ (a = false → Ss (K r) N R B C E)) (E r)) : Ss (ifF (dAnd t u) F K r) N R B C E := by
  unfold ifF
  refine ss_lift ?_
  refine rs_andc (h.impE (fun a q => ⟨fun ha => ?_, fun ha => ?_⟩) fun _ _ _ z => z)
  · have q := q.1 ha
    unfold ifF at q
    cases hu : u r with
    | ok b => rw [hu] at q; exact q
    | err n ns vs => rw [hu] at q; exact q
    | bad => rw [hu] at q; exact q
  · exact q.2 ha
end
end Dx
end S_DxAD
section S_DxAE
set_option Elab.async false
set_option linter.all false
set_option maxRecDepth 100000
set_option maxHeartbeats 2000000
namespace Dx
open PySem L2
end Dx
end S_DxAE
section S_DxAF
set_option Elab.async false
set_option linter.all false
set_option maxRecDepth 100000
set_option maxHeartbeats 4000000
namespace Dx
open PySem L2 PySem.Spec PyProof.Rows
end Dx
end S_DxAF
section S_DxAG
set_option Elab.async false
set_option linter.all false
set_option maxRecDepth 100000
set_option maxHeartbeats 4000000
namespace Dx
open PySem L2
end Dx
end S_DxAG
section S_DxAH
set_option Elab.async false
set_option linter.all false
set_option maxRecDepth 100000
set_option maxHeartbeats 2000000
namespace Dx
open PySem L2
end Dx
end S_DxAH
section S_DxAI
set_option Elab.async false
set_option linter.all false
set_option maxRecDepth 100000
set_option maxHeartbeats 2000000
namespace Dx
open PySem PySem.Spec L2 ItX PyProof.Rows
end Dx
end S_DxAI
section S_DxAJ
set_option Elab.async false
set_option linter.all false
set_option maxRecDepth 100000
set_option maxHeartbeats 2000000
namespace Dx
open PySem L2 ItX PyProof.Rows
section
variable {X : Cx} {c : Cf} {L G G' : List Ow} {f f1 : Rho → Res D} {fs gs : Rho → Res (List D)} {e o : Expr} {es : List Expr} {kws : List Keyword} {pos apos p : Pos} {C : Addr}
variable {k n : Nat} {fa : Addr} {fd : FuncData} {ps ks : List Str} {ms ms1 ms2 : List Bool} {rm : Bool} {F : List D → Res D}
theorem pk_imp {t t' : TA} (h : PK X kws t) (k : ∀ σ H Q, t' σ H Q → t σ H Q) : PK X kws t' := ⟨fun p pins s σ H Q I q => h.run p pins s σ H Q I (k σ H Q q)⟩
theorem dk_nil : PK X [] (tM c G [] dNil) := pk_imp pk_nil fun σ H Q ⟨S0, H0, S, r, ok, p⟩ => p.go ok.ex _ trivial
theorem dk_val {nm : Option Str} {kpos : Pos} {ms : List Bool} (ha : PE X e (tV c G f)) (hr : PK X kws (tM c G ms fs)) : PK X (⟨nm, e, kpos⟩ :: kws) (tM c G (false :: ms) (dCons f fs)) :=
  pk_imp (pk_cons ha hr) fun σ H Q ⟨S0, H0, S, r, ok, p⟩ => rd_seq ok p fun d v S1 H1 w1 o1 m1 p1 => rd_seq o1 p1 fun ds vs S2 H2 w2 o2 m2 p2 => p2.go o2.ex _ ⟨m1.mono w2.s, m2⟩
theorem RpM.length {S H : Hp} : ∀ {ms : List Bool} {vs : List V} {ds : List D}, RpM c S H ms vs ds → vs.length = ms.length
  | [], vs, ds, h => by cases vs <;> cases ds <;> first | rfl | exact h.elim
  | b :: ms, vs, ds, h => by
    cases vs with
    | nil => cases b <;> cases ds <;> exact h.elim
    | cons v vs => cases ds with
      | nil => cases b <;> exact h.elim
      | cons d ds => cases b <;> exact congrArg Nat.succ (RpM.length h.2)
end
/-- the parameters from what is written (0), the keywords (1), the defaults (2) -/
def pick1 {α : Type} (us ws ds : List α) : Nat × Nat → Option α
  | (0, i) => us[i]?
  | (1, i) => ws[i]?
  | (_, i) => ds[i]?
def pickL {α : Type} (t : List (Nat × Nat)) (us ws ds : List α) : List α := t.filterMap (pick1 us ws ds)
theorem vals_at : ∀ {vs : List V} {us : List Value}, Vals vs us → ∀ i : Nat, (vs[i]? = none ∧ us[i]? = none) ∨ ∃ v u, vs[i]? = some v ∧ us[i]? = some u ∧ RelV v u
  | _, _, .nil, i => .inl ⟨rfl, rfl⟩
  | _, _, .cons h t, 0 => .inr ⟨_, _, rfl, rfl, h⟩
  | _, _, .cons h t, i + 1 => vals_at t i
theorem pick_vals {vs zs dv : List V} {us ws dw : List Value} (h1 : Vals vs us) (h2 : Vals zs ws) (h3 : Vals dv dw) : ∀ t : List (Nat × Nat), Vals (pickL t vs zs dv) (pickL t us ws dw)
  | [] => .nil
  | q :: t => by
    have ih := pick_vals h1 h2 h3 t
    have h : (pick1 vs zs dv q = none ∧ pick1 us ws dw q = none) ∨ ∃ v u, pick1 vs zs dv q = some v ∧ pick1 us ws dw q = some u ∧ RelV v u := match q with
      | (0, i) => vals_at h1 i
      | (1, i) => vals_at h2 i
      | (_ + 2, i) => vals_at h3 i
    unfold pickL at ih ⊢
    rcases h with ⟨e1, e2⟩ | ⟨v, u, e1, e2, r⟩
    · rw [List.filterMap_cons_none e1, List.filterMap_cons_none e2]; exact ih
    · rw [List.filterMap_cons_some e1, List.filterMap_cons_some e2]; exact .cons r ih
theorem rpM_at {c : Cf} {S H : Hp} : ∀ {ms : List Bool} {vs : List V} {ds : List D}, RpM c S H ms vs ds → ∀ i : Nat, (ms[i]? = none ∧ vs[i]? = none ∧ ds[i]? = none) ∨ ∃ m v d, ms[i]? = some m ∧ vs[i]? = some v ∧ ds[i]? = some d ∧ (if m = true then RpB c.K c.cm S H v d else Rp c.K c.cm S v d)
  | [], [], [], _, i => .inl ⟨rfl, rfl, rfl⟩
  | [], _ :: _, _, h, _ => h.elim
  | [], [], _ :: _, h, _ => h.elim
  | true :: _, [], _, h, _ => h.elim
  | true :: _, _ :: _, [], h, _ => h.elim
  | false :: _, [], _, h, _ => h.elim
  | false :: _, _ :: _, [], h, _ => h.elim
  | true :: _, _ :: _, _ :: _, h, 0 => .inr ⟨_, _, _, rfl, rfl, rfl, by rw [if_pos rfl]; exact h.1⟩
  | false :: _, _ :: _, _ :: _, h, 0 => .inr ⟨_, _, _, rfl, rfl, rfl, by rw [if_neg (by decide)]; exact h.1⟩
  | true :: _, _ :: _, _ :: _, h, i + 1 => rpM_at h.2 i
  | false :: _, _ :: _, _ :: _, h, i + 1 => rpM_at h.2 i
theorem pick_rpM {c : Cf} {S H : Hp} {m1 m2 m3 : List Bool} {vs zs dv : List V} {ds es dd : List D} (h1 : RpM c S H m1 vs ds) (h2 : RpM c S H m2 zs es) (h3 : RpM c S H m3 dv dd) : ∀ t : List (Nat × Nat), RpM c S H (pickL t m1 m2 m3) (pickL t vs zs dv) (pickL t ds es dd)
  | [] => trivial
  | q :: t => by
    have ih := pick_rpM h1 h2 h3 t
    have h : (pick1 m1 m2 m3 q = none ∧ pick1 vs zs dv q = none ∧ pick1 ds es dd q = none) ∨ ∃ m v d, pick1 m1 m2 m3 q = some m ∧ pick1 vs zs dv q = some v ∧ pick1 ds es dd q = some d ∧ (if m = true then RpB c.K c.cm S H v d else Rp c.K c.cm S v d) := match q with
      | (0, i) => rpM_at h1 i
      | (1, i) => rpM_at h2 i
      | (_ + 2, i) => rpM_at h3 i
    unfold pickL at ih ⊢
    rcases h with ⟨e1, e2, e3⟩ | ⟨m, v, d, e1, e2, e3, r⟩
    · rw [List.filterMap_cons_none e1, List.filterMap_cons_none e2, List.filterMap_cons_none e3]; exact ih
    · rw [List.filterMap_cons_some e1, List.filterMap_cons_some e2, List.filterMap_cons_some e3]
      cases m with
      | true => rw [if_pos rfl] at r; exact ⟨r, ih⟩
      | false => rw [if_neg (by decide)] at r; exact ⟨r, ih⟩
end Dx
end S_DxAJ
section S_DxAK
set_option Elab.async false
set_option linter.all false
set_option maxRecDepth 100000
set_option maxHeartbeats 2000000
namespace Dx
open PySem PySem.Spec L2 ItX PyProof.Rows
section
variable {X : Cx} {c : Cf} {L G G' : List Ow} {f f1 : Rho → Res D} {e o : Expr} {es : List Expr} {pos apos p : Pos}
variable {k : Nat} {fa : Addr} {fd : FuncData} {ps : List Str} {rm : Bool} {F : List D → Res D} {x : Str}
theorem pe_callSD0 {CX : CXT} {sp : Sp} {E : L2.St → XK} (F : FnOk X.prog X.w X.K X.mg X.base CX k fa fd ps sp) (hr : Room k X.A) (hg : Gl X x) (hm : X.mg x = some (.ref fa)) (hk : PySem.W.keepIn X.K (.ref fa) = true) (hb : L2.Binds X.K fd ps []) (hx : ∀ σ, PassesAt CX X σ (E σ))
    (hdb : (x == ("__debug__" : Str)) = false := by decide) : PE X (.Call (.Name x p) [] [] pos) (tCallSD sp [] E tNil) := by
  refine ⟨fun pins s σ H Q I h => ?_⟩
  refine wpAny_Call_Name_kw (ld_glob I hg hm ?_ hdb)
  exact PySem.W.callWith_K0 I.kIn hk (run_fnSD (us := []) F hr hb .nil (hx σ) I .nil h)
theorem de_call0 (F1 : FnOk X.prog X.w X.K X.mg X.base (L2.CX X.prog X.w) k fa fd ps (spD c.K c.cm [] rm F)) (tk : Takes X c.W) (hr : Room k X.A) (hg : Gl X x) (hm : X.mg x = some (.ref fa)) (hk : PySem.W.keepIn X.K (.ref fa) = true) (hb : L2.Binds X.K fd ps [])
    (hdb : (x == ("__debug__" : Str)) = false := by decide) : PE X (.Call (.Name x p) [] [] pos) (rd c G (dCall F dNil) (mR c rm)) :=
  pe_imp (pe_callSD0 (E := fun σ cls d H => c.W cls d σ H) F1 hr hg hm hk hb (fun σ => passAt tk σ) hdb) fun σ H Q ⟨S0, H0, S, r, ok, q⟩ => call_rd (vs := []) (ds := []) (fun _ _ _ h => h) ok.ex trivial q
end
end Dx
end S_DxAK
section S_DxAL
set_option Elab.async false
set_option linter.all false
set_option maxRecDepth 100000
set_option maxHeartbeats 2000000
namespace Dx
open PySem PySem.Spec L2 ItX PyProof.Rows
theorem _root_.L2H.RoomH.units {k : Nat} {A : Around} (r : L2H.RoomH k A) : A.units + 64 < cLine := by have := r.un; omega
end Dx
end S_DxAL
section S_DxAM
set_option Elab.async false
set_option linter.all false
set_option maxRecDepth 100000
set_option maxHeartbeats 2000000
namespace Dx
open PySem L2 ItX
end Dx
end S_DxAM
section S_DxAN
set_option Elab.async false
set_option linter.all false
set_option maxRecDepth 100000
set_option maxHeartbeats 2000000
namespace Dx
open PySem L2 ItX
open PyProof.Rows hiding St
end Dx
end S_DxAN
section S_DxAO
set_option Elab.async false
set_option linter.all false
set_option maxRecDepth 100000
set_option maxHeartbeats 2000000
namespace Dx
open PySem L2 ItX
open PyProof.Rows hiding St
def rem (H : Hp) (p : Addr) : Hp := fun a => if a = p then none else H a
theorem rem_ne {H : Hp} {p a : Addr} (h : a ≠ p) : rem H p a = H a := if_neg h
theorem Ex.rem {S H : Hp} {p : Addr} (e : Ex S H) (n : S p = none) : Ex S (rem H p) := fun a o h => by
  have : a ≠ p := fun z => by subst z; rw [n] at h; cases h
  rw [rem_ne this]; exact e a o h
section
variable {c : Cf} {S0 H0 S H S' H' : Hp} {G : List Ow} {σ : St} {r : Rho}
/-- the own object in slot i is given away -/
theorem EnvOk.take (e : EnvOk c S0 H0 G S H σ r) {i : Nat} {d : D} {p : Addr} (k : kd G i = .o) (h : r[i]? = some (some d)) (hs : σ[i]? = some (some (.ref p))) (s3 : S p = none) (s4 : H0 p = none) : EnvOk c S0 H0 (G.set i .v) S (rem H p) σ (r.set i none) := by
  have sl : ∀ {j : Nat} {b : D}, (r.set i none)[j]? = some (some b) → i ≠ j ∧ r[j]? = some (some b) := fun {j b} hb => by
    rcases set_some hb with ⟨_, ea, _⟩ | ⟨ne, hb⟩
    · cases ea
    · exact ⟨ne, hb⟩
  refine ⟨⟨e.fwd.s, e.fwd.h.rem s4, e.fwd.sub.rem s3, e.fwd.new⟩, by rw [List.length_set]; exact e.len, fun j b hb => ?_, fun j l b b' q hj hl kj kl sj sl' => ?_, let ⟨A, hA⟩ := e.sto; ⟨A, ?_⟩⟩
  · obtain ⟨ne, hb⟩ := sl hb
    obtain ⟨v, h1, h2⟩ := e.slot j b hb
    refine ⟨v, h1, ?_⟩
    rw [kd_set_ne ne]
    cases kj : kd G j with
    | o =>
      rw [kj] at h2
      obtain ⟨q, ho, z1, z2, z3, z4, z5⟩ := h2
      subst z1
      have hq : q ≠ p := fun z => by subst z; exact ne (e.sep i j d b q h hb (isO_o k) (isO_o kj) hs h1)
      exact ⟨q, ho, rfl, by rw [rem_ne hq]; exact z2, z3, z4, z5⟩
    | i a =>
      rw [kj] at h2
      obtain ⟨z0, q, ho, z1, z2, z3, z4, z5⟩ := h2
      subst z1
      have hq : q ≠ p := fun z => by subst z; exact ne (e.sep i j d b q h hb (isO_o k) (by rw [kj]; trivial) hs h1)
      exact ⟨z0, q, ho, rfl, by rw [rem_ne hq]; exact z2, z3, z4, z5⟩
    | v => rw [kj] at h2; exact h2
    | b => rw [kj] at h2; exact h2
    | s P => rw [kj] at h2; exact h2
    | w => rw [kj] at h2; exact h2
    | x a C dd => rw [kj] at h2; exact h2
  · obtain ⟨n1, hj⟩ := sl hj
    obtain ⟨n2, hl⟩ := sl hl
    rw [kd_set_ne n1] at kj
    rw [kd_set_ne n2] at kl
    exact e.sep j l b b' q hj hl kj kl sj sl'
  · have np : ∀ a ∈ A, a ≠ p := fun a ha z => hA.own i d p h (isO_o k) hs (z ▸ ha)
    refine hA.sub (fun a ha => (hA.out a ha).1) (fun a ha => rem_ne (np a ha)) Ex.refl (fun j b q hj kj sj => ?_) fun j b kj hj => ?_
    · obtain ⟨n1, hj⟩ := sl hj
      rw [kd_set_ne n1] at kj
      exact hA.own j b q hj kj sj
    · obtain ⟨n1, hj⟩ := sl hj
      rw [kd_set_ne n1]
      exact ⟨rfl, hj, rfl⟩
end
end Dx
end S_DxAO
section S_DxAP
set_option Elab.async false
set_option linter.all false
set_option maxRecDepth 100000
set_option maxHeartbeats 2000000
namespace PySem
namespace F
theorem typeCall_zip_4 (a b c d : Value) : checkTypeCall "zip" ⟨[a, b, c, d], []⟩ = pure () := by kernel_rfl
theorem newCall_zip_4 (a b c d : Value) : checkBuiltinCall "zip.__new__" ⟨[.type "zip", a, b, c, d], []⟩ = pure () := by kernel_rfl
theorem args_object_init_5 (a b c d e : Value) : argsOk "object.__init__" ⟨[a, b, c, d, e], []⟩ := by
  unfold argsOk; rw [signature?_of (id := "object.__init__") (n := ['_', '_', 't', 'i', 'n', 'i', '_', '_']) (o := ['t', 'c', 'e', 'j', 'b', 'o']) (by kernel_rfl) owner_object]; kernel_rfl
end F
end PySem
namespace RZ
open PySem
open PySem.Sem (wp)
section
variable {prog : Program} {w : World} {A : Around} {E : Value → Shared → Prop} {s : Shared}
structure Zap (z TI TO i1 i2 i3 i4 l1 l2 l3 l4 : Addr) : Prop where
  n_TI_z : TI ≠ z
  n_TI_TO : TI ≠ TO
  n_TI_i1 : TI ≠ i1
  n_TI_i2 : TI ≠ i2
  n_TI_i3 : TI ≠ i3
  n_TI_i4 : TI ≠ i4
  n_TO_z : TO ≠ z
  n_TO_i1 : TO ≠ i1
  n_TO_i2 : TO ≠ i2
  n_TO_i3 : TO ≠ i3
  n_TO_i4 : TO ≠ i4
  n_z_TO : z ≠ TO
  n_z_i1 : z ≠ i1
  n_z_i2 : z ≠ i2
  n_z_i3 : z ≠ i3
  n_z_i4 : z ≠ i4
  n_i1_z : i1 ≠ z
  n_i1_TO : i1 ≠ TO
  n_i1_i2 : i1 ≠ i2
  n_i1_i3 : i1 ≠ i3
  n_i1_i4 : i1 ≠ i4
  n_i2_z : i2 ≠ z
  n_i2_TO : i2 ≠ TO
  n_i2_i1 : i2 ≠ i1
  n_i2_i3 : i2 ≠ i3
  n_i2_i4 : i2 ≠ i4
  n_i3_z : i3 ≠ z
  n_i3_TO : i3 ≠ TO
  n_i3_i1 : i3 ≠ i1
  n_i3_i2 : i3 ≠ i2
  n_i3_i4 : i3 ≠ i4
  n_i4_z : i4 ≠ z
  n_i4_TO : i4 ≠ TO
  n_i4_i1 : i4 ≠ i1
  n_i4_i2 : i4 ≠ i2
  n_i4_i3 : i4 ≠ i3
  n_l1_z : l1 ≠ z
  n_l1_TO : l1 ≠ TO
  n_l1_i1 : l1 ≠ i1
  n_l1_i2 : l1 ≠ i2
  n_l1_i3 : l1 ≠ i3
  n_l1_i4 : l1 ≠ i4
  n_l2_z : l2 ≠ z
  n_l2_TO : l2 ≠ TO
  n_l2_i1 : l2 ≠ i1
  n_l2_i2 : l2 ≠ i2
  n_l2_i3 : l2 ≠ i3
  n_l2_i4 : l2 ≠ i4
  n_l3_z : l3 ≠ z
  n_l3_TO : l3 ≠ TO
  n_l3_i1 : l3 ≠ i1
  n_l3_i2 : l3 ≠ i2
  n_l3_i3 : l3 ≠ i3
  n_l3_i4 : l3 ≠ i4
  n_l4_z : l4 ≠ z
  n_l4_TO : l4 ≠ TO
  n_l4_i1 : l4 ≠ i1
  n_l4_i2 : l4 ≠ i2
  n_l4_i3 : l4 ≠ i3
  n_l4_i4 : l4 ≠ i4
abbrev IsSeq (h : Heap) (T : Addr) (xs : Array Value) : Prop := h.get? T = some { cls := .type "tuple", data := .seq xs }
theorem updateSeq_seq {T : Addr} {xs : Array Value} {x : Value} {k : Nat} {Q : Unit → Shared → Prop} (hn : xs.size ≤ sizeLine) (hT : IsSeq s.heap T xs)
    (h : ∀ h', IsSeq h' T (xs.setIfInBounds k x) → Heap.SameBut T s.heap h' → Q () { s with heap := h' }) :
    wpAny (model prog w) A (updateSeq T (·.setIfInBounds k x)) Q E s := by
  refine wpAny_updateSeq hT rfl (h _ ?_ (Heap.SameBut.update ..)) (hz := hn)
  show (s.heap.update T _).get? T = _
  rw [Heap.get?_update_self _ hT rfl]
  simp [Obj.mapSeq]
theorem zip4_next_item {z TI TO i1 i2 i3 i4 l1 l2 l3 l4 : Addr} {k : Nat} {xs1 xs2 xs3 xs4 : Array Value} {a1 a2 a3 a4 : Value} {x1 x2 x3 x4 : Value} {Q : Value → Shared → Prop} (D : Zap z TI TO i1 i2 i3 i4 l1 l2 l3 l4)
    (hz : IsZip s.heap z TI TO .none) (hTI : IsSeq s.heap TI #[.ref i1, .ref i2, .ref i3, .ref i4]) (hTO : IsSeq s.heap TO #[a1, a2, a3, a4])
    (h1 : s.heap.IsTupleIter i1 l1 k) (h2 : s.heap.IsTupleIter i2 l2 k) (h3 : s.heap.IsTupleIter i3 l3 k) (h4 : s.heap.IsTupleIter i4 l4 k)
    (q1 : s.heap.IsTuple l1 xs1) (q2 : s.heap.IsTuple l2 xs2) (q3 : s.heap.IsTuple l3 xs3) (q4 : s.heap.IsTuple l4 xs4)
    (e1 : xs1[k]? = some x1) (e2 : xs2[k]? = some x2) (e3 : xs3[k]? = some x3) (e4 : xs4[k]? = some x4)
    (hQ : ∀ h', IsZip h' z TI TO (rawInt s.heap.objs.size) → IsSeq h' TO #[x1, x2, x3, x4] → h'.IsTupleIter i1 l1 (k + 1) → h'.IsTupleIter i2 l2 (k + 1) → h'.IsTupleIter i3 l3 (k + 1) → h'.IsTupleIter i4 l4 (k + 1) → IsSeq h' s.heap.objs.size #[x1, x2, x3, x4] → h'.objs.size = s.heap.objs.size + 1 →
      (∀ c o, c ≠ z → c ≠ TO → c ≠ i1 → c ≠ i2 → c ≠ i3 → c ≠ i4 → s.heap.get? c = some o → h'.get? c = some o) → Q (.ref s.heap.objs.size) { s with heap := h' }) :
    wpAny (model prog w) A (Builtin.«zip.__next__» ⟨[.ref z], []⟩) (fun fin s' => ∃ v, fin = .done (.ret v) ∧ Q v s') E s := by
  show wpAny _ _ (field (.ref z) 2 >>= _) _ _ _
  refine wpAny_bind (wpAny_field hz rfl (x := .bool false) rfl ?_)
  show wpAny _ _ (field (.ref z) 3 >>= _) _ _ _
  refine wpAny_bind (wpAny_field hz rfl (x := .ref TI) rfl ?_)
  refine wpAny_bind (wpAny_seqItems hTI rfl ?_)
  show wpAny _ _ (Builtin.SmallTypes.ownedTupleIsFree (.ref z) >>= _) _ _ _
  refine wpAny_bind ?_
  unfold Builtin.SmallTypes.ownedTupleIsFree
  refine wpAny_bind (wpAny_field hz rfl (x := .none) rfl (wpAny_pure ?_))
  simp only [if_true]
  refine wpAny_bind (wpAny_rule ?_)
  refine wpAny_bind (wpAny_field hz rfl (x := .ref TO) rfl ?_)
  refine wpAny_bind (wpAny_setField_rec hz (by simp) fun g0 hz0 hs0 => ?_)
  replace hz0 : IsZip g0 z TI TO .ellipsis := hz0
  refine wpAny_bind ?_
  simp only [List.zipIdx_cons, List.zipIdx_nil, List.forIn_cons, List.forIn_nil]
  refine wpAny_bind (wpAny_bind (wpAny_onRaise ?_))
  show wpAny _ _ (Builtin.SmallTypes.nextOf (.ref i1) >>= _) _ _ _
  refine wpAny_bind (nextOf_tuple_item (h1.extBut hs0.extBut D.n_i1_z) (q1.extBut hs0.extBut D.n_l1_z) e1 fun n1 hn1 hsn1 => wpAny_pure ?_)
  have hTOn1 : IsSeq n1 TO #[a1, a2, a3, a4] := (hsn1.extBut _ _ D.n_TO_i1 (hs0.extBut _ _ D.n_TO_z hTO))
  refine wpAny_bind (wpAny_seqItems hTOn1 rfl ?_)
  refine wpAny_bind (updateSeq_seq (by show 4 ≤ sizeLine; decide) hTOn1 fun u1 hTOu1 hsu1 => ?_)
  replace hTOu1 : IsSeq u1 TO #[x1, a2, a3, a4] := hTOu1
  refine wpAny_bind (wpAny_letGo (wpAny_pure ?_))
  refine wpAny_bind (wpAny_bind (wpAny_onRaise ?_))
  show wpAny _ _ (Builtin.SmallTypes.nextOf (.ref i2) >>= _) _ _ _
  refine wpAny_bind (nextOf_tuple_item (((h2.extBut hs0.extBut D.n_i2_z).extBut hsn1.extBut D.n_i2_i1).extBut hsu1.extBut D.n_i2_TO) (((q2.extBut hs0.extBut D.n_l2_z).extBut hsn1.extBut D.n_l2_i1).extBut hsu1.extBut D.n_l2_TO) e2 fun n2 hn2 hsn2 => wpAny_pure ?_)
  have hTOn2 : IsSeq n2 TO #[x1, a2, a3, a4] := (hsn2.extBut _ _ D.n_TO_i2 hTOu1)
  refine wpAny_bind (wpAny_seqItems hTOn2 rfl ?_)
  refine wpAny_bind (updateSeq_seq (by show 4 ≤ sizeLine; decide) hTOn2 fun u2 hTOu2 hsu2 => ?_)
  replace hTOu2 : IsSeq u2 TO #[x1, x2, a3, a4] := hTOu2
  refine wpAny_bind (wpAny_letGo (wpAny_pure ?_))
  refine wpAny_bind (wpAny_bind (wpAny_onRaise ?_))
  show wpAny _ _ (Builtin.SmallTypes.nextOf (.ref i3) >>= _) _ _ _
  refine wpAny_bind (nextOf_tuple_item (((((h3.extBut hs0.extBut D.n_i3_z).extBut hsn1.extBut D.n_i3_i1).extBut hsu1.extBut D.n_i3_TO).extBut hsn2.extBut D.n_i3_i2).extBut hsu2.extBut D.n_i3_TO) (((((q3.extBut hs0.extBut D.n_l3_z).extBut hsn1.extBut D.n_l3_i1).extBut hsu1.extBut D.n_l3_TO).extBut hsn2.extBut D.n_l3_i2).extBut hsu2.extBut D.n_l3_TO) e3 fun n3 hn3 hsn3 => wpAny_pure ?_)
  have hTOn3 : IsSeq n3 TO #[x1, x2, a3, a4] := (hsn3.extBut _ _ D.n_TO_i3 hTOu2)
  refine wpAny_bind (wpAny_seqItems hTOn3 rfl ?_)
  refine wpAny_bind (updateSeq_seq (by show 4 ≤ sizeLine; decide) hTOn3 fun u3 hTOu3 hsu3 => ?_)
  replace hTOu3 : IsSeq u3 TO #[x1, x2, x3, a4] := hTOu3
  refine wpAny_bind (wpAny_letGo (wpAny_pure ?_))
  refine wpAny_bind (wpAny_bind (wpAny_onRaise ?_))
  show wpAny _ _ (Builtin.SmallTypes.nextOf (.ref i4) >>= _) _ _ _
  refine wpAny_bind (nextOf_tuple_item (((((((h4.extBut hs0.extBut D.n_i4_z).extBut hsn1.extBut D.n_i4_i1).extBut hsu1.extBut D.n_i4_TO).extBut hsn2.extBut D.n_i4_i2).extBut hsu2.extBut D.n_i4_TO).extBut hsn3.extBut D.n_i4_i3).extBut hsu3.extBut D.n_i4_TO) (((((((q4.extBut hs0.extBut D.n_l4_z).extBut hsn1.extBut D.n_l4_i1).extBut hsu1.extBut D.n_l4_TO).extBut hsn2.extBut D.n_l4_i2).extBut hsu2.extBut D.n_l4_TO).extBut hsn3.extBut D.n_l4_i3).extBut hsu3.extBut D.n_l4_TO) e4 fun n4 hn4 hsn4 => wpAny_pure ?_)
  have hTOn4 : IsSeq n4 TO #[x1, x2, x3, a4] := (hsn4.extBut _ _ D.n_TO_i4 hTOu3)
  refine wpAny_bind (wpAny_seqItems hTOn4 rfl ?_)
  refine wpAny_bind (updateSeq_seq (by show 4 ≤ sizeLine; decide) hTOn4 fun u4 hTOu4 hsu4 => ?_)
  replace hTOu4 : IsSeq u4 TO #[x1, x2, x3, x4] := hTOu4
  refine wpAny_bind (wpAny_letGo (wpAny_pure (wpAny_pure ?_)))
  refine wpAny_bind (wpAny_seqItems hTOu4 rfl ?_)
  refine wpAny_bind (wpAny_newTuple ?_)
  have hsz : u4.objs.size = s.heap.objs.size := by rw [hsu4.1, hsn4.1, hsu3.1, hsn3.1, hsu2.1, hsn2.1, hsu1.1, hsn1.1, hs0.1]
  have hzL : IsZip u4 z TI TO .ellipsis := (hsu4.extBut _ _ D.n_z_TO (hsn4.extBut _ _ D.n_z_i4 (hsu3.extBut _ _ D.n_z_TO (hsn3.extBut _ _ D.n_z_i3 (hsu2.extBut _ _ D.n_z_TO (hsn2.extBut _ _ D.n_z_i2 (hsu1.extBut _ _ D.n_z_TO (hsn1.extBut _ _ D.n_z_i1 hz0))))))))
  have hkL : ∀ c o, c ≠ z → c ≠ TO → c ≠ i1 → c ≠ i2 → c ≠ i3 → c ≠ i4 → s.heap.get? c = some o → u4.get? c = some o := fun c o c1 c2 d1 d2 d3 d4 e => (hsu4.extBut _ _ c2 (hsn4.extBut _ _ d4 (hsu3.extBut _ _ c2 (hsn3.extBut _ _ d3 (hsu2.extBut _ _ c2 (hsn2.extBut _ _ d2 (hsu1.extBut _ _ c2 (hsn1.extBut _ _ d1 (hs0.extBut _ _ c1 e)))))))))
  have hL1 : u4.IsTupleIter i1 l1 (k + 1) := (((((((hn1.extBut hsu1.extBut D.n_i1_TO).extBut hsn2.extBut D.n_i1_i2).extBut hsu2.extBut D.n_i1_TO).extBut hsn3.extBut D.n_i1_i3).extBut hsu3.extBut D.n_i1_TO).extBut hsn4.extBut D.n_i1_i4).extBut hsu4.extBut D.n_i1_TO)
  have hL2 : u4.IsTupleIter i2 l2 (k + 1) := (((((hn2.extBut hsu2.extBut D.n_i2_TO).extBut hsn3.extBut D.n_i2_i3).extBut hsu3.extBut D.n_i2_TO).extBut hsn4.extBut D.n_i2_i4).extBut hsu4.extBut D.n_i2_TO)
  have hL3 : u4.IsTupleIter i3 l3 (k + 1) := (((hn3.extBut hsu3.extBut D.n_i3_TO).extBut hsn4.extBut D.n_i3_i4).extBut hsu4.extBut D.n_i3_TO)
  have hL4 : u4.IsTupleIter i4 l4 (k + 1) := (hn4.extBut hsu4.extBut D.n_i4_TO)
  have hzlt : z < u4.objs.size := Heap.lt_size hzL
  have hTOlt : TO < u4.objs.size := Heap.lt_size hTOu4
  show wpAny _ _ (Builtin.SmallTypes.ownedTupleHandOut (.ref z) (.ref u4.objs.size) >>= _) _ _ _
  refine wpAny_bind ?_
  unfold Builtin.SmallTypes.ownedTupleHandOut
  have hz6 : IsZip (u4.push { cls := .type "tuple", data := .seq #[x1, x2, x3, x4] }) z TI TO .ellipsis := Heap.get?_push_of_some _ hzL
  refine wpAny_bind (wpAny_setField_rec hz6 (by simp) fun h7 hz7 hs7 => ?_)
  replace hz7 : IsZip h7 z TI TO (rawInt u4.objs.size) := hz7
  refine wpAny_setField_rec hz7 (by simp) fun h8 hz8 hs8 => ?_
  replace hz8 : IsZip h8 z TI TO (rawInt u4.objs.size) := hz8
  have up : ∀ c o, c ≠ z → u4.get? c = some o → h8.get? c = some o := fun c o c1 e => hs8.extBut _ _ c1 (hs7.extBut _ _ c1 (Heap.get?_push_of_some _ e))
  have hT8 : IsSeq h8 u4.objs.size #[x1, x2, x3, x4] := hs8.extBut _ _ (Nat.ne_of_gt hzlt) (hs7.extBut _ _ (Nat.ne_of_gt hzlt) (Heap.get?_push_size _ rfl))
  have hz9 : h8.objs.size = u4.objs.size + 1 := by rw [hs8.1, hs7.1, Heap.size_push]
  rw [hsz] at hz8 hT8 hz9
  refine wpAny_pure ⟨_, rfl, ?_⟩
  show Q (.ref u4.objs.size) _
  rw [hsz]
  exact hQ h8 hz8 (up _ _ D.n_TO_z hTOu4) (hL1.at fun o e => up _ o D.n_i1_z e) (hL2.at fun o e => up _ o D.n_i2_z e) (hL3.at fun o e => up _ o D.n_i3_z e) (hL4.at fun o e => up _ o D.n_i4_z e) hT8 hz9 fun c o c1 c2 d1 d2 d3 d4 e => up c o c1 (hkL c o c1 c2 d1 d2 d3 d4 e)
theorem zip4_next_end {z TI TO i1 i2 i3 i4 l1 l2 l3 l4 : Addr} {k : Nat} {xs1 xs2 xs3 xs4 : Array Value} {a1 a2 a3 a4 : Value} {Q : Fin → Shared → Prop} (hh : A.handled = none) (D : Zap z TI TO i1 i2 i3 i4 l1 l2 l3 l4)
    (hz : IsZip s.heap z TI TO .none) (hTI : IsSeq s.heap TI #[.ref i1, .ref i2, .ref i3, .ref i4]) (hTO : IsSeq s.heap TO #[a1, a2, a3, a4])
    (h1 : s.heap.IsTupleIter i1 l1 k) (h2 : s.heap.IsTupleIter i2 l2 k) (h3 : s.heap.IsTupleIter i3 l3 k) (h4 : s.heap.IsTupleIter i4 l4 k)
    (q1 : s.heap.IsTuple l1 xs1) (q2 : s.heap.IsTuple l2 xs2) (q3 : s.heap.IsTuple l3 xs3) (q4 : s.heap.IsTuple l4 xs4)
    (hend : xs1[k]? = none ∨ xs2[k]? = none ∨ xs3[k]? = none ∨ xs4[k]? = none)
    (hE : ∀ h' e, (∀ c o, c ≠ z → c ≠ TO → c ≠ i1 → c ≠ i2 → c ≠ i3 → c ≠ i4 → s.heap.get? c = some o → h'.get? c = some o) → (∃ o, h'.get? e = some o ∧ o.cls = .type "StopIteration") → E (.ref e) { s with heap := h' }) :
    wpAny (model prog w) A (Builtin.«zip.__next__» ⟨[.ref z], []⟩) Q E s := by
  show wpAny _ _ (field (.ref z) 2 >>= _) _ _ _
  refine wpAny_bind (wpAny_field hz rfl (x := .bool false) rfl ?_)
  show wpAny _ _ (field (.ref z) 3 >>= _) _ _ _
  refine wpAny_bind (wpAny_field hz rfl (x := .ref TI) rfl ?_)
  refine wpAny_bind (wpAny_seqItems hTI rfl ?_)
  show wpAny _ _ (Builtin.SmallTypes.ownedTupleIsFree (.ref z) >>= _) _ _ _
  refine wpAny_bind ?_
  unfold Builtin.SmallTypes.ownedTupleIsFree
  refine wpAny_bind (wpAny_field hz rfl (x := .none) rfl (wpAny_pure ?_))
  simp only [if_true]
  refine wpAny_bind (wpAny_rule ?_)
  refine wpAny_bind (wpAny_field hz rfl (x := .ref TO) rfl ?_)
  refine wpAny_bind (wpAny_setField_rec hz (by simp) fun g0 hz0 hs0 => ?_)
  replace hz0 : IsZip g0 z TI TO .ellipsis := hz0
  refine wpAny_bind ?_
  simp only [List.zipIdx_cons, List.zipIdx_nil, List.forIn_cons, List.forIn_nil]
  refine wpAny_bind (wpAny_bind (wpAny_onRaise ?_))
  show wpAny _ _ (Builtin.SmallTypes.nextOf (.ref i1) >>= _) _ _ _
  cases e1 : xs1[k]? with
  | none =>
    refine wpAny_bind (nextOf_tuple_end hh (h1.extBut hs0.extBut D.n_i1_z) (q1.extBut hs0.extBut D.n_l1_z) e1 fun hf e EX he => ?_)
    obtain ⟨oe, hoe, hce⟩ := he
    have hzf : IsZip hf z TI TO .ellipsis := (EX _ _ D.n_z_i1 hz0)
    have hez : e ≠ z := fun x => by subst x; rw [hzf] at hoe; cases hoe; simp at hce
    refine wpAny_setField_rec hzf (by simp) fun hg _ hsg => hE hg e (fun c o c1 c2 d1 d2 d3 d4 x => hsg.extBut _ _ c1 (EX _ _ d1 (hs0.extBut _ _ c1 x))) ⟨oe, hsg.extBut _ _ hez hoe, hce⟩
  | some x1 =>
    refine wpAny_bind (nextOf_tuple_item (h1.extBut hs0.extBut D.n_i1_z) (q1.extBut hs0.extBut D.n_l1_z) e1 fun n1 hn1 hsn1 => wpAny_pure ?_)
    have hTOn1 : IsSeq n1 TO #[a1, a2, a3, a4] := (hsn1.extBut _ _ D.n_TO_i1 (hs0.extBut _ _ D.n_TO_z hTO))
    refine wpAny_bind (wpAny_seqItems hTOn1 rfl ?_)
    refine wpAny_bind (updateSeq_seq (by show 4 ≤ sizeLine; decide) hTOn1 fun u1 hTOu1 hsu1 => ?_)
    replace hTOu1 : IsSeq u1 TO #[x1, a2, a3, a4] := hTOu1
    refine wpAny_bind (wpAny_letGo (wpAny_pure ?_))
    refine wpAny_bind (wpAny_bind (wpAny_onRaise ?_))
    show wpAny _ _ (Builtin.SmallTypes.nextOf (.ref i2) >>= _) _ _ _
    cases e2 : xs2[k]? with
    | none =>
      refine wpAny_bind (nextOf_tuple_end hh (((h2.extBut hs0.extBut D.n_i2_z).extBut hsn1.extBut D.n_i2_i1).extBut hsu1.extBut D.n_i2_TO) (((q2.extBut hs0.extBut D.n_l2_z).extBut hsn1.extBut D.n_l2_i1).extBut hsu1.extBut D.n_l2_TO) e2 fun hf e EX he => ?_)
      obtain ⟨oe, hoe, hce⟩ := he
      have hzf : IsZip hf z TI TO .ellipsis := (EX _ _ D.n_z_i2 (hsu1.extBut _ _ D.n_z_TO (hsn1.extBut _ _ D.n_z_i1 hz0)))
      have hez : e ≠ z := fun x => by subst x; rw [hzf] at hoe; cases hoe; simp at hce
      refine wpAny_setField_rec hzf (by simp) fun hg _ hsg => hE hg e (fun c o c1 c2 d1 d2 d3 d4 x => hsg.extBut _ _ c1 (EX _ _ d2 (hsu1.extBut _ _ c2 (hsn1.extBut _ _ d1 (hs0.extBut _ _ c1 x))))) ⟨oe, hsg.extBut _ _ hez hoe, hce⟩
    | some x2 =>
      refine wpAny_bind (nextOf_tuple_item (((h2.extBut hs0.extBut D.n_i2_z).extBut hsn1.extBut D.n_i2_i1).extBut hsu1.extBut D.n_i2_TO) (((q2.extBut hs0.extBut D.n_l2_z).extBut hsn1.extBut D.n_l2_i1).extBut hsu1.extBut D.n_l2_TO) e2 fun n2 hn2 hsn2 => wpAny_pure ?_)
      have hTOn2 : IsSeq n2 TO #[x1, a2, a3, a4] := (hsn2.extBut _ _ D.n_TO_i2 hTOu1)
      refine wpAny_bind (wpAny_seqItems hTOn2 rfl ?_)
      refine wpAny_bind (updateSeq_seq (by show 4 ≤ sizeLine; decide) hTOn2 fun u2 hTOu2 hsu2 => ?_)
      replace hTOu2 : IsSeq u2 TO #[x1, x2, a3, a4] := hTOu2
      refine wpAny_bind (wpAny_letGo (wpAny_pure ?_))
      refine wpAny_bind (wpAny_bind (wpAny_onRaise ?_))
      show wpAny _ _ (Builtin.SmallTypes.nextOf (.ref i3) >>= _) _ _ _
      cases e3 : xs3[k]? with
      | none =>
        refine wpAny_bind (nextOf_tuple_end hh (((((h3.extBut hs0.extBut D.n_i3_z).extBut hsn1.extBut D.n_i3_i1).extBut hsu1.extBut D.n_i3_TO).extBut hsn2.extBut D.n_i3_i2).extBut hsu2.extBut D.n_i3_TO) (((((q3.extBut hs0.extBut D.n_l3_z).extBut hsn1.extBut D.n_l3_i1).extBut hsu1.extBut D.n_l3_TO).extBut hsn2.extBut D.n_l3_i2).extBut hsu2.extBut D.n_l3_TO) e3 fun hf e EX he => ?_)
        obtain ⟨oe, hoe, hce⟩ := he
        have hzf : IsZip hf z TI TO .ellipsis := (EX _ _ D.n_z_i3 (hsu2.extBut _ _ D.n_z_TO (hsn2.extBut _ _ D.n_z_i2 (hsu1.extBut _ _ D.n_z_TO (hsn1.extBut _ _ D.n_z_i1 hz0)))))
        have hez : e ≠ z := fun x => by subst x; rw [hzf] at hoe; cases hoe; simp at hce
        refine wpAny_setField_rec hzf (by simp) fun hg _ hsg => hE hg e (fun c o c1 c2 d1 d2 d3 d4 x => hsg.extBut _ _ c1 (EX _ _ d3 (hsu2.extBut _ _ c2 (hsn2.extBut _ _ d2 (hsu1.extBut _ _ c2 (hsn1.extBut _ _ d1 (hs0.extBut _ _ c1 x))))))) ⟨oe, hsg.extBut _ _ hez hoe, hce⟩
      | some x3 =>
        refine wpAny_bind (nextOf_tuple_item (((((h3.extBut hs0.extBut D.n_i3_z).extBut hsn1.extBut D.n_i3_i1).extBut hsu1.extBut D.n_i3_TO).extBut hsn2.extBut D.n_i3_i2).extBut hsu2.extBut D.n_i3_TO) (((((q3.extBut hs0.extBut D.n_l3_z).extBut hsn1.extBut D.n_l3_i1).extBut hsu1.extBut D.n_l3_TO).extBut hsn2.extBut D.n_l3_i2).extBut hsu2.extBut D.n_l3_TO) e3 fun n3 hn3 hsn3 => wpAny_pure ?_)
        have hTOn3 : IsSeq n3 TO #[x1, x2, a3, a4] := (hsn3.extBut _ _ D.n_TO_i3 hTOu2)
        refine wpAny_bind (wpAny_seqItems hTOn3 rfl ?_)
        refine wpAny_bind (updateSeq_seq (by show 4 ≤ sizeLine; decide) hTOn3 fun u3 hTOu3 hsu3 => ?_)
        replace hTOu3 : IsSeq u3 TO #[x1, x2, x3, a4] := hTOu3
        refine wpAny_bind (wpAny_letGo (wpAny_pure ?_))
        refine wpAny_bind (wpAny_bind (wpAny_onRaise ?_))
        show wpAny _ _ (Builtin.SmallTypes.nextOf (.ref i4) >>= _) _ _ _
        cases e4 : xs4[k]? with
        | none =>
          refine wpAny_bind (nextOf_tuple_end hh (((((((h4.extBut hs0.extBut D.n_i4_z).extBut hsn1.extBut D.n_i4_i1).extBut hsu1.extBut D.n_i4_TO).extBut hsn2.extBut D.n_i4_i2).extBut hsu2.extBut D.n_i4_TO).extBut hsn3.extBut D.n_i4_i3).extBut hsu3.extBut D.n_i4_TO) (((((((q4.extBut hs0.extBut D.n_l4_z).extBut hsn1.extBut D.n_l4_i1).extBut hsu1.extBut D.n_l4_TO).extBut hsn2.extBut D.n_l4_i2).extBut hsu2.extBut D.n_l4_TO).extBut hsn3.extBut D.n_l4_i3).extBut hsu3.extBut D.n_l4_TO) e4 fun hf e EX he => ?_)
          obtain ⟨oe, hoe, hce⟩ := he
          have hzf : IsZip hf z TI TO .ellipsis := (EX _ _ D.n_z_i4 (hsu3.extBut _ _ D.n_z_TO (hsn3.extBut _ _ D.n_z_i3 (hsu2.extBut _ _ D.n_z_TO (hsn2.extBut _ _ D.n_z_i2 (hsu1.extBut _ _ D.n_z_TO (hsn1.extBut _ _ D.n_z_i1 hz0)))))))
          have hez : e ≠ z := fun x => by subst x; rw [hzf] at hoe; cases hoe; simp at hce
          refine wpAny_setField_rec hzf (by simp) fun hg _ hsg => hE hg e (fun c o c1 c2 d1 d2 d3 d4 x => hsg.extBut _ _ c1 (EX _ _ d4 (hsu3.extBut _ _ c2 (hsn3.extBut _ _ d3 (hsu2.extBut _ _ c2 (hsn2.extBut _ _ d2 (hsu1.extBut _ _ c2 (hsn1.extBut _ _ d1 (hs0.extBut _ _ c1 x))))))))) ⟨oe, hsg.extBut _ _ hez hoe, hce⟩
        | some x4 =>
          rcases hend with h | h | h | h
          · rw [e1] at h; cases h
          · rw [e2] at h; cases h
          · rw [e3] at h; cases h
          · rw [e4] at h; cases h
theorem pyNext_zip4_item {z TI TO i1 i2 i3 i4 l1 l2 l3 l4 : Addr} {k : Nat} {xs1 xs2 xs3 xs4 : Array Value} {a1 a2 a3 a4 : Value} {x1 x2 x3 x4 : Value} {Q : Option Value → Shared → Prop} (D : Zap z TI TO i1 i2 i3 i4 l1 l2 l3 l4)
    (hz : IsZip s.heap z TI TO .none) (hTI : IsSeq s.heap TI #[.ref i1, .ref i2, .ref i3, .ref i4]) (hTO : IsSeq s.heap TO #[a1, a2, a3, a4])
    (h1 : s.heap.IsTupleIter i1 l1 k) (h2 : s.heap.IsTupleIter i2 l2 k) (h3 : s.heap.IsTupleIter i3 l3 k) (h4 : s.heap.IsTupleIter i4 l4 k)
    (q1 : s.heap.IsTuple l1 xs1) (q2 : s.heap.IsTuple l2 xs2) (q3 : s.heap.IsTuple l3 xs3) (q4 : s.heap.IsTuple l4 xs4)
    (e1 : xs1[k]? = some x1) (e2 : xs2[k]? = some x2) (e3 : xs3[k]? = some x3) (e4 : xs4[k]? = some x4)
    (hQ : ∀ h', IsZip h' z TI TO (rawInt s.heap.objs.size) → IsSeq h' TO #[x1, x2, x3, x4] → h'.IsTupleIter i1 l1 (k + 1) → h'.IsTupleIter i2 l2 (k + 1) → h'.IsTupleIter i3 l3 (k + 1) → h'.IsTupleIter i4 l4 (k + 1) → IsSeq h' s.heap.objs.size #[x1, x2, x3, x4] → h'.objs.size = s.heap.objs.size + 1 →
      (∀ c o, c ≠ z → c ≠ TO → c ≠ i1 → c ≠ i2 → c ≠ i3 → c ≠ i4 → s.heap.get? c = some o → h'.get? c = some o) → Q (some (.ref s.heap.objs.size)) { s with heap := h' }) : wpAny (model prog w) A (pyNext (.ref z)) Q E s := by
  have hT : s.TypeIs (.ref z) "zip" := ⟨_, hz, rfl⟩
  unfold pyNext
  exact wpAny_bind (wpAny_attempt (wpAny_callSpecial?_slot (name := Str.ofString "__next__") hT F.slot_zip_next
    (wpAny_call_entry F.slot_zip_next hT F.entry_zip_next
      (zip4_next_item D hz hTI hTO h1 h2 h3 h4 q1 q2 q3 q4 e1 e2 e3 e4 fun h' b0 b1 b2 b3 b4 b5 b6 b7 b8 => wpAny_pure (hQ h' b0 b1 b2 b3 b4 b5 b6 b7 b8)) (F.args_zip_next_1 _))))
theorem pyNext_zip4_end {z TI TO i1 i2 i3 i4 l1 l2 l3 l4 : Addr} {k : Nat} {xs1 xs2 xs3 xs4 : Array Value} {a1 a2 a3 a4 : Value} {Q : Option Value → Shared → Prop} (hh : A.handled = none) (D : Zap z TI TO i1 i2 i3 i4 l1 l2 l3 l4)
    (hz : IsZip s.heap z TI TO .none) (hTI : IsSeq s.heap TI #[.ref i1, .ref i2, .ref i3, .ref i4]) (hTO : IsSeq s.heap TO #[a1, a2, a3, a4])
    (h1 : s.heap.IsTupleIter i1 l1 k) (h2 : s.heap.IsTupleIter i2 l2 k) (h3 : s.heap.IsTupleIter i3 l3 k) (h4 : s.heap.IsTupleIter i4 l4 k)
    (q1 : s.heap.IsTuple l1 xs1) (q2 : s.heap.IsTuple l2 xs2) (q3 : s.heap.IsTuple l3 xs3) (q4 : s.heap.IsTuple l4 xs4)
    (hend : xs1[k]? = none ∨ xs2[k]? = none ∨ xs3[k]? = none ∨ xs4[k]? = none)
    (hQ : ∀ h', (∀ c o, c ≠ z → c ≠ TO → c ≠ i1 → c ≠ i2 → c ≠ i3 → c ≠ i4 → s.heap.get? c = some o → h'.get? c = some o) → Q none { s with heap := h' }) : wpAny (model prog w) A (pyNext (.ref z)) Q E s := by
  have hT : s.TypeIs (.ref z) "zip" := ⟨_, hz, rfl⟩
  unfold pyNext
  refine wpAny_bind (wpAny_attempt (wpAny_callSpecial?_slot (name := Str.ofString "__next__") hT F.slot_zip_next
    (wpAny_call_entry F.slot_zip_next hT F.entry_zip_next (zip4_next_end hh D hz hTI hTO h1 h2 h3 h4 q1 q2 q3 q4 hend fun h' e hk he => ?_) (F.args_zip_next_1 _))))
  obtain ⟨o, ho, hc⟩ := he
  refine wpAny_bind (wpAny_isInstance (T := "StopIteration") (b := true) ⟨o, ho, hc⟩ isSubtype_stop ?_)
  exact wpAny_pure (hQ _ hk)
end
abbrev zip4H1 (h : Heap) (l1 : Addr) : Heap := h.push { cls := .type "tuple_iterator", data := .fields #[.ref l1, .int 0 0] }
abbrev zip4H2 (h : Heap) (l1 l2 : Addr) : Heap := (zip4H1 h l1).push { cls := .type "tuple_iterator", data := .fields #[.ref l2, .int 0 0] }
abbrev zip4H3 (h : Heap) (l1 l2 l3 : Addr) : Heap := (zip4H2 h l1 l2).push { cls := .type "tuple_iterator", data := .fields #[.ref l3, .int 0 0] }
abbrev zip4H4 (h : Heap) (l1 l2 l3 l4 : Addr) : Heap := (zip4H3 h l1 l2 l3).push { cls := .type "tuple_iterator", data := .fields #[.ref l4, .int 0 0] }
abbrev zip4H5 (h : Heap) (l1 l2 l3 l4 : Addr) : Heap := (zip4H4 h l1 l2 l3 l4).push { cls := .type "tuple", data := .seq #[.ref h.objs.size, .ref (zip4H1 h l1).objs.size, .ref (zip4H2 h l1 l2).objs.size, .ref (zip4H3 h l1 l2 l3).objs.size] }
abbrev zip4H6 (h : Heap) (l1 l2 l3 l4 : Addr) : Heap := (zip4H5 h l1 l2 l3 l4).push { cls := .type "tuple", data := .seq #[.none, .none, .none, .none] }
abbrev zip4H7 (h : Heap) (l1 l2 l3 l4 : Addr) : Heap := (zip4H6 h l1 l2 l3 l4).push { cls := .type "zip", data := .fields #[.none, .bool false, .bool false, .ref (zip4H4 h l1 l2 l3 l4).objs.size, .ref (zip4H5 h l1 l2 l3 l4).objs.size] }
theorem meets_zip4_new (l1 l2 l3 l4 : Addr) (xs1 xs2 xs3 xs4 : Array Value) :
    Meets (Builtin.«zip.__new__» ⟨[.type "zip", .ref l1, .ref l2, .ref l3, .ref l4], []⟩) (fun _ R s => s.heap.IsTuple l1 xs1 ∧ s.heap.IsTuple l2 xs2 ∧ s.heap.IsTuple l3 xs3 ∧ s.heap.IsTuple l4 xs4 ∧
      R (.ok (.ret (.ref (zip4H6 s.heap l1 l2 l3 l4).objs.size))) { s with heap := zip4H7 s.heap l1 l2 l3 l4 }) :=
  .of_wp fun prog w A R s h => by
    obtain ⟨hp, g, d, tk, os⟩ := s; obtain ⟨hl1, hl2, hl3, hl4, h⟩ := h
    have hsub := sub_zip
    have hL1 : Heap.IsTuple (Shared.heap ⟨hp, g, d, tk, os⟩) l1 xs1 := hl1
    have hL2 : Heap.IsTuple (Shared.heap ⟨zip4H1 hp l1, g, d, tk, os⟩) l2 xs2 := (Heap.IsTuple.push hl2 _)
    have hL3 : Heap.IsTuple (Shared.heap ⟨zip4H2 hp l1 l2, g, d, tk, os⟩) l3 xs3 := (Heap.IsTuple.push (Heap.IsTuple.push hl3 _) _)
    have hL4 : Heap.IsTuple (Shared.heap ⟨zip4H3 hp l1 l2 l3, g, d, tk, os⟩) l4 xs4 := (Heap.IsTuple.push (Heap.IsTuple.push (Heap.IsTuple.push hl4 _) _) _)
    wp_walk using wpAny_pyIter_tuple hL1, wpAny_pyIter_tuple hL2, wpAny_pyIter_tuple hL3, wpAny_pyIter_tuple hL4
    exact ⟨_, rfl, h⟩
section
variable {prog : Program} {w : World} {A : Around} {E : Value → Shared → Prop} {s : Shared}
theorem call_zip4 {l1 l2 l3 l4 : Addr} {xs1 xs2 xs3 xs4 : Array Value} {Q : Value → Shared → Prop} (hl1 : s.heap.IsTuple l1 xs1) (hl2 : s.heap.IsTuple l2 xs2) (hl3 : s.heap.IsTuple l3 xs3) (hl4 : s.heap.IsTuple l4 xs4)
    (h : ∀ h', IsZip h' (s.heap.objs.size + 6) (s.heap.objs.size + 4) (s.heap.objs.size + 5) .none → IsSeq h' (s.heap.objs.size + 4) #[.ref s.heap.objs.size, .ref (s.heap.objs.size + 1), .ref (s.heap.objs.size + 2), .ref (s.heap.objs.size + 3)] → IsSeq h' (s.heap.objs.size + 5) #[.none, .none, .none, .none] → h'.IsTupleIter s.heap.objs.size l1 0 → h'.IsTupleIter (s.heap.objs.size + 1) l2 0 → h'.IsTupleIter (s.heap.objs.size + 2) l3 0 → h'.IsTupleIter (s.heap.objs.size + 3) l4 0 → h'.objs.size = s.heap.objs.size + 7 →
      (∀ c o, s.heap.get? c = some o → h'.get? c = some o) → Q (.ref (s.heap.objs.size + 6)) { s with heap := h' }) :
    wpAny (model prog w) A (call (.type "zip") [.ref l1, .ref l2, .ref l3, .ref l4]) Q E s := by
  refine callType_new F.called_zip (by decide) (F.typeCall_zip_4 _ _ _ _) (F.newCall_zip_4 _ _ _ _) (fun obj => F.args_object_init_5 obj _ _ _ _) F.entry_zip_new
    (meets_zip4_new l1 l2 l3 l4 xs1 xs2 xs3 xs4) ⟨hl1, hl2, hl3, hl4, ?_⟩
  have z1 : (zip4H1 s.heap l1).objs.size = s.heap.objs.size + 1 := Heap.size_push ..
  have z2 : (zip4H2 s.heap l1 l2).objs.size = s.heap.objs.size + 2 := by rw [Heap.size_push, z1]
  have z3 : (zip4H3 s.heap l1 l2 l3).objs.size = s.heap.objs.size + 3 := by rw [Heap.size_push, z2]
  have z4 : (zip4H4 s.heap l1 l2 l3 l4).objs.size = s.heap.objs.size + 4 := by rw [Heap.size_push, z3]
  have z5 : (zip4H5 s.heap l1 l2 l3 l4).objs.size = s.heap.objs.size + 5 := by rw [Heap.size_push, z4]
  have z6 : (zip4H6 s.heap l1 l2 l3 l4).objs.size = s.heap.objs.size + 6 := by rw [Heap.size_push, z5]
  have z7 : (zip4H7 s.heap l1 l2 l3 l4).objs.size = s.heap.objs.size + 7 := by rw [Heap.size_push, z6]
  have g1 : (zip4H7 s.heap l1 l2 l3 l4).get? s.heap.objs.size = some _ := (Heap.get?_push_of_some _ (Heap.get?_push_of_some _ (Heap.get?_push_of_some _ (Heap.get?_push_of_some _ (Heap.get?_push_of_some _ (Heap.get?_push_of_some _ (Heap.get?_push_size _ rfl)))))))
  have g2 : (zip4H7 s.heap l1 l2 l3 l4).get? (zip4H1 s.heap l1).objs.size = some _ := (Heap.get?_push_of_some _ (Heap.get?_push_of_some _ (Heap.get?_push_of_some _ (Heap.get?_push_of_some _ (Heap.get?_push_of_some _ (Heap.get?_push_size _ rfl))))))
  have g3 : (zip4H7 s.heap l1 l2 l3 l4).get? (zip4H2 s.heap l1 l2).objs.size = some _ := (Heap.get?_push_of_some _ (Heap.get?_push_of_some _ (Heap.get?_push_of_some _ (Heap.get?_push_of_some _ (Heap.get?_push_size _ rfl)))))
  have g4 : (zip4H7 s.heap l1 l2 l3 l4).get? (zip4H3 s.heap l1 l2 l3).objs.size = some _ := (Heap.get?_push_of_some _ (Heap.get?_push_of_some _ (Heap.get?_push_of_some _ (Heap.get?_push_size _ rfl))))
  have g5 : (zip4H7 s.heap l1 l2 l3 l4).get? (zip4H4 s.heap l1 l2 l3 l4).objs.size = some _ := (Heap.get?_push_of_some _ (Heap.get?_push_of_some _ (Heap.get?_push_size _ rfl)))
  have g6 : (zip4H7 s.heap l1 l2 l3 l4).get? (zip4H5 s.heap l1 l2 l3 l4).objs.size = some _ := (Heap.get?_push_of_some _ (Heap.get?_push_size _ rfl))
  have g7 : (zip4H7 s.heap l1 l2 l3 l4).get? (zip4H6 s.heap l1 l2 l3 l4).objs.size = some _ := (Heap.get?_push_size _ rfl)
  show _ ∧ _
  rw [z1] at g2
  rw [z2] at g3
  rw [z3] at g4
  rw [z4] at g5
  rw [z5] at g6
  rw [z6] at g7
  rw [z1, z2, z3] at g5
  rw [z4, z5] at g7
  rw [z6]
  exact ⟨⟨_, g7, rfl⟩, h _ g7 g5 g6 ⟨_, g1, rfl, rfl⟩ ⟨_, g2, rfl, rfl⟩ ⟨_, g3, rfl, rfl⟩ ⟨_, g4, rfl, rfl⟩ z7 fun c o x => (Heap.get?_push_of_some _ (Heap.get?_push_of_some _ (Heap.get?_push_of_some _ (Heap.get?_push_of_some _ (Heap.get?_push_of_some _ (Heap.get?_push_of_some _ (Heap.get?_push_of_some _ x)))))))⟩
end
end RZ
end S_DxAP
section S_DxAQ
set_option Elab.async false
set_option linter.all false
set_option maxRecDepth 100000
set_option maxHeartbeats 2000000
namespace RZ
open PySem PySem.Spec PyProof.Rows L2
theorem zap_mk (I l1 l2 l3 l4 : Nat) (h1 : l1 < I) (h2 : l2 < I) (h3 : l3 < I) (h4 : l4 < I) : Zap (I + 6) (I + 4) (I + 5) I (I + 1) (I + 2) (I + 3) l1 l2 l3 l4 := by
  constructor <;> (refine PySem.W.neN ?_; omega)
/-- the tuples at a, b, c, d as they stand at each turn, the items in new tuples -/
def Itz4 (K : PySem.W.Frag) (a b c d : Addr) : It :=
  ⟨fun i H => ∃ (ws xs ys zs : List V) (p q x y : V), SqT K H a ws ∧ SqT K H b xs ∧ SqT K H c ys ∧ SqT K H d zs ∧ ws[i]? = some p ∧ xs[i]? = some q ∧ ys[i]? = some x ∧ zs[i]? = some y,
    fun i H v H' => ∃ T p q x y, v = .ref T ∧ H T = none ∧ H' = upd H T (.tup [p, q, x, y]) ∧ (∀ xs, SqT K H a xs → xs[i]? = some p) ∧ (∀ xs, SqT K H b xs → xs[i]? = some q) ∧ (∀ xs, SqT K H c xs → xs[i]? = some x) ∧ ∀ xs, SqT K H d xs → xs[i]? = some y,
    fun i H => ∃ ws xs ys zs : List V, SqT K H a ws ∧ SqT K H b xs ∧ SqT K H c ys ∧ SqT K H d zs ∧ (ws.length ≤ i ∨ xs.length ≤ i ∨ ys.length ≤ i ∨ zs.length ≤ i)⟩
theorem turn_zip4 {P : Program} {w : World} {K : PySem.W.Frag} {elts : List Expr} {kk : Nat} {tpos : Pos} {a b c d z TI TO i1 i2 i3 i4 : Addr} (D : Zap z TI TO i1 i2 i3 i4 a b c d) :
    Turn P w K (.Tuple elts kk tpos) (Itz4 K a b c d) [z, TI, TO, i1, i2, i3, i4] z (fun i h => IsZip h z TI TO .none ∧ IsSeq h TI #[.ref i1, .ref i2, .ref i3, .ref i4] ∧ (∃ x1 x2 x3 x4, IsSeq h TO #[x1, x2, x3, x4]) ∧ h.IsTupleIter i1 a i ∧ h.IsTupleIter i2 b i ∧ h.IsTupleIter i3 c i ∧ h.IsTupleIter i4 d i) where
  mem := by simp
  obj := fun i h st c hc => by
    obtain ⟨hz, hTI, ⟨_, _, _, _, hTO⟩, ⟨o1, e1, _, d1⟩, ⟨o2, e2, _, d2⟩, ⟨o3, e3, _, d3⟩, ⟨o4, e4, _, d4⟩⟩ := st
    have e' : c = z ∨ c = TI ∨ c = TO ∨ c = i1 ∨ c = i2 ∨ c = i3 ∨ c = i4 := by simpa using hc
    rcases e' with q | q | q | q | q | q | q
    · rw [q]; exact ⟨_, hz, fun v q => nomatch q⟩
    · rw [q]; exact ⟨_, hTI, fun v q => nomatch q⟩
    · rw [q]; exact ⟨_, hTO, fun v q => nomatch q⟩
    · rw [q]; exact ⟨o1, e1, fun v q => by rw [d1] at q; cases q⟩
    · rw [q]; exact ⟨o2, e2, fun v q => by rw [d2] at q; cases q⟩
    · rw [q]; exact ⟨o3, e3, fun v q => by rw [d3] at q; cases q⟩
    · rw [q]; exact ⟨o4, e4, fun v q => by rw [d4] at q; cases q⟩
  keep := fun i h h' st k => by
    obtain ⟨hz, hTI, ⟨_, _, _, _, hTO⟩, h1, h2, h3, h4⟩ := st
    exact ⟨k z (by simp) _ hz, k TI (by simp) _ hTI, ⟨_, _, _, _, k TO (by simp) _ hTO⟩, h1.at fun o q => k i1 (by simp) o q, h2.at fun o q => k i2 (by simp) o q, h3.at fun o q => k i3 (by simp) o q, h4.at fun o q => k i4 (by simp) o q⟩
  item := by
    intro X hP hw hK hc i pins s σ H E I hf st hg
    subst hP hw hK
    obtain ⟨hz, hTI, ⟨_, _, _, _, hTO⟩, h1, h2, h3, h4⟩ := st
    obtain ⟨ws, xs, ys, zs, p, q, x, y, g1, g2, g3, g4, e1, e2, e3, e4⟩ := hg
    obtain ⟨t1, r1, p1, _⟩ := I.tuple g1
    obtain ⟨t2, r2, p2, _⟩ := I.tuple g2
    obtain ⟨t3, r3, p3, _⟩ := I.tuple g3
    obtain ⟨t4, r4, p4, _⟩ := I.tuple g4
    obtain ⟨u1, m1, v1⟩ := r1.get e1
    obtain ⟨u2, m2, v2⟩ := r2.get e2
    obtain ⟨u3, m3, v3⟩ := r3.get e3
    obtain ⟨u4, m4, v4⟩ := r4.get e4
    have hzl : z < s.heap.objs.size := Heap.lt_size hz
    refine pyNext_zip4_item D hz hTI hTO h1 h2 h3 h4 p1 p2 p3 p4 (x1 := u1) (x2 := u2) (x3 := u3) (x4 := u4) (by simpa using m1) (by simpa using m2) (by simpa using m3) (by simpa using m4) fun h' z' TO' h1' h2' h3' h4' hT hsz hk => ?_
    refine ⟨_, rfl, wpAny_letOwnedTupleGo_zip (s := { s with heap := h' }) z' fun h'' z'' sb => ?_⟩
    have hT2 : h''.get? s.heap.objs.size = some { cls := .type "tuple", data := .seq #[u1, u2, u3, u4] } := (sb.2 _ (Nat.ne_of_gt hzl)).trans hT
    have new : ObjOk X.prog X.w (upd H s.heap.objs.size (.tup [p, q, x, y])) h'' s.heap.objs.size (.tup [p, q, x, y]) :=
      ⟨by show 4 ≤ sizeLine; decide, [u1, u2, u3, u4], .cons v1 (.cons v2 (.cons v3 (.cons v4 .nil))), ⟨_, hT2, rfl, _, rfl⟩⟩
    have I1 : Inv X pins σ (upd H s.heap.objs.size (.tup [p, q, x, y])) { s with heap := h'' } :=
      I.turnedNew (t' := s.toks) (ch := [z, TI, TO, i1, i2, i3, i4]) (fun c o hb q => (sb.2 c (fun q' => hb (by simp [q']))).trans (hk c o (fun q' => hb (by simp [q'])) (fun q' => hb (by simp [q'])) (fun q' => hb (by simp [q'])) (fun q' => hb (by simp [q'])) (fun q' => hb (by simp [q'])) (fun q' => hb (by simp [q'])) q)) hf (Nat.le_refl _) new
    have keepz : ∀ c o, c ≠ z → h'.get? c = some o → h''.get? c = some o := fun c o n q => (sb.2 _ n).trans q
    refine ⟨.ref s.heap.objs.size, _, I1, rfl, ⟨_, p, q, x, y, rfl, I.hok.fresh (Nat.le_refl _), rfl, fun l hl => by rw [I.tuple_inj hl g1]; exact e1, fun l hl => by rw [I.tuple_inj hl g2]; exact e2, fun l hl => by rw [I.tuple_inj hl g3]; exact e3, fun l hl => by rw [I.tuple_inj hl g4]; exact e4⟩, ⟨z'', ?_, ⟨u1, u2, u3, u4, ?_⟩, ?_, ?_, ?_, ?_⟩, fun c hcm => ?_⟩
    · exact keepz _ _ D.n_TI_z (hk _ _ D.n_TI_z D.n_TI_TO D.n_TI_i1 D.n_TI_i2 D.n_TI_i3 D.n_TI_i4 hTI)
    · exact keepz _ _ D.n_TO_z TO'
    · exact h1'.at fun o q => keepz _ o D.n_i1_z q
    · exact h2'.at fun o q => keepz _ o D.n_i2_z q
    · exact h3'.at fun o q => keepz _ o D.n_i3_z q
    · exact h4'.at fun o q => keepz _ o D.n_i4_z q
    · have hlt : c < s.heap.objs.size := by
        have e' : c = z ∨ c = TI ∨ c = TO ∨ c = i1 ∨ c = i2 ∨ c = i3 ∨ c = i4 := by simpa using hcm
        rcases e' with q | q | q | q | q | q | q
        · rw [q]; exact hzl
        · rw [q]; exact Heap.lt_size hTI
        · rw [q]; exact Heap.lt_size hTO
        · rw [q]; obtain ⟨_, e1, _⟩ := h1; exact Heap.lt_size e1
        · rw [q]; obtain ⟨_, e2, _⟩ := h2; exact Heap.lt_size e2
        · rw [q]; obtain ⟨_, e3, _⟩ := h3; exact Heap.lt_size e3
        · rw [q]; obtain ⟨_, e4, _⟩ := h4; exact Heap.lt_size e4
      rw [upd_ne (Nat.ne_of_lt hlt)]
      exact (hf c hcm).1
  done := by
    intro X hP hw hK hc i pins s σ H E I hf st hg
    subst hP hw hK
    obtain ⟨hz, hTI, ⟨_, _, _, _, hTO⟩, h1, h2, h3, h4⟩ := st
    obtain ⟨ws, xs, ys, zs, g1, g2, g3, g4, hend⟩ := hg
    obtain ⟨t1, r1, p1, _⟩ := I.tuple g1
    obtain ⟨t2, r2, p2, _⟩ := I.tuple g2
    obtain ⟨t3, r3, p3, _⟩ := I.tuple g3
    obtain ⟨t4, r4, p4, _⟩ := I.tuple g4
    have l1 := r1.length
    have l2 := r2.length
    have l3 := r3.length
    have l4 := r4.length
    have he : t1.toArray[i]? = none ∨ t2.toArray[i]? = none ∨ t3.toArray[i]? = none ∨ t4.toArray[i]? = none := by
      rcases hend with q | q | q | q
      · exact .inl (by simp; omega)
      · exact .inr (.inl (by simp; omega))
      · exact .inr (.inr (.inl (by simp; omega)))
      · exact .inr (.inr (.inr (by simp; omega)))
    exact pyNext_zip4_end (I.ok.hd hc) D hz hTI hTO h1 h2 h3 h4 p1 p2 p3 p4 he fun h' hk => ⟨rfl, I.turnedL (t' := s.toks) (ch := [z, TI, TO, i1, i2, i3, i4]) (fun c o hb q =>
      hk c o (fun q' => hb (by simp [q'])) (fun q' => hb (by simp [q'])) (fun q' => hb (by simp [q'])) (fun q' => hb (by simp [q'])) (fun q' => hb (by simp [q'])) (fun q' => hb (by simp [q'])) q) hf⟩
  self := fun A i s Q E st h => wpAny_pyIter_zip st.1 h
def iZip4 (K : PySem.W.Frag) (ta : TA) : TI := fun σ H R => ta σ H fun vs H1 => ∃ a b c d ws xs ys zs, vs = [.ref a, .ref b, .ref c, .ref d] ∧ SqT K H1 a ws ∧ SqT K H1 b xs ∧ SqT K H1 c ys ∧ SqT K H1 d zs ∧ R (Itz4 K a b c d) H1
theorem pi_zip4 {X : Cx} {e e2 e3 e4 : Expr} {ta : TA} {p pos tpos : Pos} {elts : List Expr} {kk : Nat} (hg : Gl X "zip") (hm : X.mg "zip" = none) (ha : PA X [e, e2, e3, e4] ta)
    (hs : starEach [e, e2, e3, e4] X.env = (false, eval e X.env) :: starEach [e2, e3, e4] X.env := by rfl) (hpl : (backTo pos (starEach [e2, e3, e4] X.env)).any (·.1) = false := by rfl) :
    PI X (.Tuple elts kk tpos) (.Call (.Name "zip" p) [e, e2, e3, e4] [] pos) (iZip4 X.K ta) := by
  refine ⟨fun pins s σ H R I h => ?_⟩
  refine Call_ (ld_blt I hg hm PyProof.Rows.boot_zip (PyProof.Rows.callWith_type1 (thn (ha.run pos pins s σ H _ I h) fun us s1 ⟨vs, H1, I1, r1, q1⟩ => ?_) hs hpl))
  obtain ⟨a, b, c, d, ws, xs, ys, zs, ex, g1, g2, g3, g4, q⟩ := q1
  subst ex
  cases r1 with
  | cons ra r1 =>
  cases r1 with
  | cons rb r1 =>
  cases r1 with
  | cons rc r1 =>
  cases r1 with
  | cons rd r1 =>
  cases r1
  cases ra
  cases rb
  cases rc
  cases rd
  have fresh7 : ∀ c, c ∈ [s1.heap.objs.size + 6, s1.heap.objs.size + 4, s1.heap.objs.size + 5, s1.heap.objs.size, s1.heap.objs.size + 1, s1.heap.objs.size + 2, s1.heap.objs.size + 3] → FpOk X pins H1 c := fun c hcm => by
    have e' : c = s1.heap.objs.size + 6 ∨ c = s1.heap.objs.size + 4 ∨ c = s1.heap.objs.size + 5 ∨ c = s1.heap.objs.size ∨ c = s1.heap.objs.size + 1 ∨ c = s1.heap.objs.size + 2 ∨ c = s1.heap.objs.size + 3 := by simpa using hcm
    have hle : s1.heap.objs.size ≤ c := by
      rcases e' with z | z | z | z | z | z | z
      · rw [z]; exact Nat.le_add_right _ _
      · rw [z]; exact Nat.le_add_right _ _
      · rw [z]; exact Nat.le_add_right _ _
      · rw [z]; exact Nat.le_refl _
      · rw [z]; exact Nat.le_add_right _ _
      · rw [z]; exact Nat.le_add_right _ _
      · rw [z]; exact Nat.le_add_right _ _
    exact I1.fpOk hle (I1.hok.fresh hle)
  obtain ⟨t1, r1, p1, _⟩ := I1.tuple g1
  obtain ⟨t2, r2, p2, _⟩ := I1.tuple g2
  obtain ⟨t3, r3, p3, _⟩ := I1.tuple g3
  obtain ⟨t4, r4, p4, _⟩ := I1.tuple g4
  obtain ⟨o1, ho1, _⟩ := id p1
  obtain ⟨o2, ho2, _⟩ := id p2
  obtain ⟨o3, ho3, _⟩ := id p3
  obtain ⟨o4, ho4, _⟩ := id p4
  refine call_zip4 (show s1.heap.IsTuple a t1.toArray from p1) (show s1.heap.IsTuple b t2.toArray from p2) (show s1.heap.IsTuple c t3.toArray from p3) (show s1.heap.IsTuple d t4.toArray from p4) fun h' hz hTI hTO h1 h2 h3 h4 hsz hk => wpAny_pyIter_zip hz ?_
  have I2 : Inv X pins σ H1 { s1 with heap := h' } := I1.kept (t' := s1.toks) hk
  exact ⟨s1.heap.objs.size + 6, [s1.heap.objs.size + 6, s1.heap.objs.size + 4, s1.heap.objs.size + 5, s1.heap.objs.size, s1.heap.objs.size + 1, s1.heap.objs.size + 2, s1.heap.objs.size + 3], _, _, H1, rfl, I2, turn_zip4 (zap_mk s1.heap.objs.size a b c d (Heap.lt_size ho1) (Heap.lt_size ho2) (Heap.lt_size ho3) (Heap.lt_size ho4)), ⟨hz, hTI, ⟨_, _, _, _, hTO⟩, h1, h2, h3, h4⟩, fresh7, q⟩
theorem walk_zip4 {K : PySem.W.Frag} {a b c d : Addr} {ws xs ys zs : List V} : Walk (Itz4 K a b c d) (min ws.length (min xs.length (min ys.length zs.length))) (fun H => SqT K H a ws ∧ SqT K H b xs ∧ SqT K H c ys ∧ SqT K H d zs)
    (fun i H v H' => ∃ T p q x y, v = .ref T ∧ H T = none ∧ H' = upd H T (.tup [p, q, x, y]) ∧ ws[i]? = some p ∧ xs[i]? = some q ∧ ys[i]? = some x ∧ zs[i]? = some y) := by
  refine ⟨fun i H hi hH => ?_, fun H hH => ?_, fun i H v H' hi hH yy => ?_⟩
  · obtain ⟨g1, g2, g3, g4⟩ := hH
    exact ⟨ws, xs, ys, zs, _, _, _, _, g1, g2, g3, g4, List.getElem?_eq_getElem (by omega), List.getElem?_eq_getElem (by omega), List.getElem?_eq_getElem (by omega), List.getElem?_eq_getElem (by omega)⟩
  · obtain ⟨g1, g2, g3, g4⟩ := hH
    exact ⟨ws, xs, ys, zs, g1, g2, g3, g4, by omega⟩
  · obtain ⟨g1, g2, g3, g4⟩ := hH
    obtain ⟨T, p, q, x, y, h1, h2, h3, h4, h5, h6, h7⟩ := yy
    exact ⟨T, p, q, x, y, h1, h2, h3, h4 _ g1, h5 _ g2, h6 _ g3, h7 _ g4⟩
end RZ
end S_DxAQ
section S_DxAR
set_option Elab.async false
set_option linter.all false
set_option maxRecDepth 100000
set_option maxHeartbeats 2000000
namespace Dx
open PySem L2 ItX
open PyProof.Rows hiding St
def seqT : D → Option (List D)
  | .tup ds => some ds
  | .kt ds => some ds
  | _ => none
def quads : List D → List D → List D → List D → List D
  | a :: as, b :: bs, c :: cs, d :: ds => .tup [a, b, c, d] :: quads as bs cs ds
  | _, _, _, _ => []
theorem quads_len : ∀ (as bs cs ds : List D), (quads as bs cs ds).length = min as.length (min bs.length (min cs.length ds.length))
  | [], _, _, _ => by simp [quads]
  | _ :: _, [], _, _ => by simp [quads]
  | _ :: _, _ :: _, [], _ => by simp [quads]
  | _ :: _, _ :: _, _ :: _, [] => by simp [quads]
  | a :: as, b :: bs, c :: cs, d :: ds => by
    rw [quads, List.length_cons, quads_len as bs cs ds]
    simp only [List.length_cons]
    omega
theorem quads_get : ∀ (as bs cs ds : List D) (i : Nat) (a b c d : D), as[i]? = some a → bs[i]? = some b → cs[i]? = some c → ds[i]? = some d → (quads as bs cs ds)[i]? = some (.tup [a, b, c, d])
  | [], _, _, _, _, _, _, _, _, h, _, _, _ => by simp at h
  | _ :: _, [], _, _, _, _, _, _, _, _, h, _, _ => by simp at h
  | _ :: _, _ :: _, [], _, _, _, _, _, _, _, _, h, _ => by simp at h
  | _ :: _, _ :: _, _ :: _, [], _, _, _, _, _, _, _, _, h => by simp at h
  | a :: as, b :: bs, c :: cs, d :: ds, 0, _, _, _, _, h1, h2, h3, h4 => by simp at h1 h2 h3 h4; subst h1 h2 h3 h4; simp [quads]
  | a :: as, b :: bs, c :: cs, d :: ds, i + 1, p, q, x, y, h1, h2, h3, h4 => by
    rw [quads, List.getElem?_cons_succ]
    exact quads_get as bs cs ds i p q x y (by simpa using h1) (by simpa using h2) (by simpa using h3) (by simpa using h4)
def zip4T : List D → Res (List D)
  | [p, q, x, y] => match seqT p, seqT q, seqT x, seqT y with
    | some a, some b, some c, some d => .ok (quads a b c d)
    | _, _, _, _ => .bad
  | _ => .bad
theorem seqT_v {K : PySem.W.Frag} {cm : CM} {S : Hp} {v : V} {d : D} {ds : List D} (h : Rp K cm S v d) (q : seqT d = some ds) : ∃ a xs, v = .ref a ∧ SqT K S a xs ∧ RpA K cm S xs ds := by
  cases d with
  | tup es =>
    cases q
    cases h with | tup h1 r => exact ⟨_, _, rfl, .inl (.inl h1), r⟩
  | kt es =>
    cases q
    cases h with | kt h1 r => exact ⟨_, _, rfl, h1, r⟩
  | _ => cases q
section
variable {X : Cx} {c : Cf} {L G G' : List Ow} {f f1 f2 : Rho → Res D} {e e2 e3 e4 : Expr} {pos apos p : Pos} {fs : Rho → Res (List D)}
theorem di_zip4 {p tpos : Pos} {elts : List Expr} {kk : Nat} (hm : X.mg "zip" = none) (hg : Gl X "zip") (ha : PA X [e, e2, e3, e4] (tAs c G fs)) (hK : c.K = X.K := by rfl) (hs : starEach [e, e2, e3, e4] X.env = (false, eval e X.env) :: starEach [e2, e3, e4] X.env := by rfl) (hpl : (backTo pos (starEach [e2, e3, e4] X.env)).any (·.1) = false := by rfl) :
    PI X (.Tuple elts kk tpos) (.Call (.Name "zip" p) [e, e2, e3, e4] [] pos) (iD c G (dIts zip4T fs)) :=
  pi_imp (RZ.pi_zip4 hg hm ha hs hpl) fun σ H R ⟨S0, H0, S, r, ok, p⟩ => rd_seq ok p fun ds vs S1 H1 w1 o1 m1 p1 => by
    unfold zip4T at p1
    split at p1
    · rename_i d1 d2 d3 d4
      cases m1 with | cons h1 m1 =>
      cases m1 with | cons h2 m1 =>
      cases m1 with | cons h3 m1 =>
      cases m1 with | cons h4 m1 =>
      cases m1
      split at p1
      · rename_i a b cc d z1 z2 z3 z4
        obtain ⟨q1, x1, rfl, s1, r1⟩ := seqT_v h1 z1
        obtain ⟨q2, x2, rfl, s2, r2⟩ := seqT_v h2 z2
        obtain ⟨q3, x3, rfl, s3, r3⟩ := seqT_v h3 z3
        obtain ⟨q4, x4, rfl, s4, r4⟩ := seqT_v h4 z4
        rw [hK] at s1 s2 s3 s4
        have W := RZ.walk_zip4 (K := X.K) (a := q1) (b := q2) (c := q3) (d := q4) (ws := x1) (xs := x2) (ys := x3) (zs := x4)
        rw [r1.length, r2.length, r3.length, r4.length, ← quads_len] at W
        refine ⟨q1, q2, q3, q4, x1, x2, x3, x4, rfl, o1.ex.t s1, o1.ex.t s2, o1.ex.t s3, o1.ex.t s4, p1.go o1.ex _ (show Gives c _ _ (RZ.Itz4 X.K q1 q2 q3 q4) _ from ⟨_, _, W, fun S'' H'' e1 e2 _ => ⟨(e1.trans e2).t s1, (e1.trans e2).t s2, (e1.trans e2).t s3, (e1.trans e2).t s4⟩, fun i S2 v H2 H3 hi e1 e2 yy => ?_⟩)⟩
        obtain ⟨T, p, q, x, y, rfl, hT, rfl, g1, g2, g3, g4⟩ := yy
        obtain ⟨b1, k1, t1⟩ := r1.getV g1
        obtain ⟨b2, k2, t2⟩ := r2.getV g2
        obtain ⟨b3, k3, t3⟩ := r3.getV g3
        obtain ⟨b4, k4, t4⟩ := r4.getV g4
        have en : Ex S2 (upd S2 T (.tup [p, q, x, y])) := Ex.new (e2.nn hT)
        exact ⟨upd S2 T (.tup [p, q, x, y]), .tup [b1, b2, b3, b4], Fwd.both e2 hT, quads_get _ _ _ _ i _ _ _ _ k1 k2 k3 k4, .tup upd_same (.cons (t1.mono (e1.trans en)) (.cons (t2.mono (e1.trans en)) (.cons (t3.mono (e1.trans en)) (.cons (t4.mono (e1.trans en)) .nil))))⟩
      · exact p1.elim
    · exact p1.elim
end
section
variable {X : Cx} {CX : CXT} {k n : Nat} {f C : Addr} {fd : FuncData} {ps ks : List Str} {sp : Sp} {E : L2.St → XK} {x : Str} {p pos : Pos} {e : Expr} {es : List Expr} {kws : List Keyword} {t tk : TA} {g : List Value → List Value → List Value} {gV : List V → List V → List V}
def tMakeKS (C : Addr) (n m : Nat) (sp : Sp) (gV : List V → List V → List V) (E : L2.St → XK) (t tk : TA) : TE := fun σ H Q => t σ H fun vs H1 => tk σ H1 fun zs H2 => vs.length = n ∧ zs.length = m ∧ ∀ x dx, H2 x = none → H2 dx = none → dx ≠ x →
  sp (gV (.ref x :: vs) zs) (upd (upd H2 dx (.own x)) x (.ins C dx [])) (fun v H3 => v = .non ∧ Q (.ref x) H3) (E σ)
theorem run_makeKS {pins : List (Addr × Obj)} {σ : L2.St} {H : Hp} {s : Shared} {Q : VK} {us ws : List Value} {vs zs : List V} (M : Mk X.K C f) (F : FnOk X.prog X.w X.K X.mg X.base CX k f fd ps sp) (hr : Room (k + 1) X.A) (hb : KBn X.K fd ps (n + 1) ks g gV) (hx : PassesAt CX X σ (E σ))
    (I : Inv X pins σ H s) (r : Vals vs us) (rz : Vals zs ws) (l1 : vs.length = n) (l2 : zs.length = ks.length)
    (h : ∀ x dx, H x = none → H dx = none → dx ≠ x → sp (gV (.ref x :: vs) zs) (upd (upd H dx (.own x)) x (.ins C dx [])) (fun v H2 => v = .non ∧ Q (.ref x) H2) (E σ)) :
    wpAny (model X.prog X.w) X.A (call (.ref C) us (ks.zip ws)) (EP X pins σ Q) X.xe s := by
  have hq := h (s.heap.objs.size + 1) s.heap.objs.size (I.hok.fresh (Nat.le_succ _)) (I.hok.fresh (Nat.le_refl _)) (Nat.ne_of_lt (Nat.lt_succ_self _))
  have I2 := Inv.made (C := C) I
  have r1 : Vals (V.ref (s.heap.objs.size + 1) :: vs) (Value.ref (s.heap.objs.size + 1) :: us) := .cons rfl r
  have r2 := hb.rel r1 rz
  have n1 : (Value.ref (s.heap.objs.size + 1) :: us).length = n + 1 := by
    rw [List.length_cons, ← r.length, l1]
  refine wpAny_call (make_map (f := f) I.kIn M.makes M.init (beq_iff_eq.mp M.fn) (codeAny_mono (F.run _ X.stack _ _ ⟨Value.ref (s.heap.objs.size + 1) :: us, ks.zip ws⟩ (g (Value.ref (s.heap.objs.size + 1) :: us) ws) _ _ (E σ) (hr.make C us (ks.zip ws))
    (I2.env0.make C us (ks.zip ws)) (hb.to _ (Value.ref (s.heap.objs.size + 1) :: us) ws I2.kIn n1 (rz.length.symm.trans l2)) r2 hq) fun r s' hq' => ?_))
  cases r with
  | error e => exact hx pins _ _ e s' I2 hq'
  | ok fl =>
    cases fl with
    | ret u =>
      obtain ⟨v, H', I3, rv, ev, q3⟩ := I2.after hq'
      subst ev
      exact ⟨rv, ⟨V.ref (s.heap.objs.size + 1), H', I3, rfl, q3⟩⟩
    | next => exact False.elim hq'
    | brk => exact False.elim hq'
    | cont => exact False.elim hq'
theorem pe_makeKS (M : Mk X.K C f) (F : FnOk X.prog X.w X.K X.mg X.base CX k f fd ps sp) (hr : Room (k + 1) X.A) (hg : Gl X x) (hm : X.mg x = some (.ref C)) (hb : KBn X.K fd ps (n + 1) ks g gV) (hx : ∀ σ, PassesAt CX X σ (E σ)) (ha : PA X (e :: es) t) (hkw : PK X kws tk)
    (hall : (backToKw pos (keywordEach kws X.env)).all (·.1.isSome) = true := by rfl) (hks : (backToKw pos (keywordEach kws X.env)).filterMap (·.1) = ks := by rfl) (hdb : (x == ("__debug__" : Str)) = false := by decide)
    (he : starEach (e :: es) X.env = (false, eval e X.env) :: starEach es X.env := by rfl) (hpl : ((backTo pos (starEach (e :: es) X.env)).any (·.1) || (backToKw pos (keywordEach kws X.env)).any (·.1.isNone)) = false := by rfl) :
    PE X (.Call (.Name x p) (e :: es) kws pos) (tMakeKS C n ks.length sp gV E t tk) := by
  refine ⟨fun pins s σ H Q I h => ?_⟩
  refine wpAny_Call_Name_kw (ld_glob I hg hm ?_ hdb)
  refine PySem.W.callWith_KW (h₀ := X.base) I.ok.mod.kin M.kp hall (thn (ha.run pos pins s σ H _ I h) fun us s1 ⟨vs, H1, I1, r, q⟩ => ?_) hpl he
  refine thn (hkw.run pos pins s1 σ H1 _ I1 q) fun ws s2 ⟨zs, H2, I2, rz, l1, l2, q2⟩ => ⟨I2.kIn, ?_⟩
  rw [hks]
  exact run_makeKS M F hr hb (hx σ) I2 r rz l1 l2 q2
end
end Dx
end S_DxAR
section S_DxAS
set_option Elab.async false
set_option linter.all false
set_option maxRecDepth 100000
set_option maxHeartbeats 2000000
namespace Dx
open PySem L2 ItX
open PyProof.Rows hiding St
end Dx
end S_DxAS
section S_DxAT
set_option Elab.async false
set_option linter.all false
set_option maxRecDepth 100000
set_option maxHeartbeats 2000000
namespace Dx
open PySem L2 ItX
open PyProof.Rows hiding St
end Dx
end S_DxAT
section S_DxAU
set_option Elab.async false
set_option linter.all false
set_option maxRecDepth 100000
set_option maxHeartbeats 2000000
namespace Dx
open PySem L2 ItX
open PyProof.Rows hiding St
end Dx
end S_DxAU
section S_DxAV
set_option Elab.async false
set_option linter.all false
set_option maxRecDepth 100000
set_option maxHeartbeats 2000000
namespace Dx
open PySem L2 ItX
open PyProof.Rows hiding St
end Dx
end S_DxAV
section S_DxAW
set_option Elab.async false
set_option linter.all false
set_option maxRecDepth 100000
set_option maxHeartbeats 2000000
namespace Dx
open PySem L2 HandSPX
open PyProof.Rows hiding St
end Dx
end S_DxAW
section S_DxAX
set_option Elab.async false
set_option linter.all false
set_option maxRecDepth 100000
set_option maxHeartbeats 2000000
namespace Dx
open PySem L2 PySem.Spec
open PyProof.Rows hiding St passOn frameOf
end Dx
end S_DxAX
section S_DxAY
set_option Elab.async false
set_option linter.all false
set_option maxRecDepth 100000
set_option maxHeartbeats 2000000
namespace Dx
open PySem L2
open PyProof.Rows hiding St
end Dx
end S_DxAY
section S_DxAZ
set_option Elab.async false
set_option linter.all false
set_option maxRecDepth 100000
set_option maxHeartbeats 2000000
namespace Dx
open PySem L2
open PyProof.Rows hiding St
section
variable {X : Cx} {c : Cf} {L G G' : List Ow} {σ : St} {S0 H0 S H S' H' : Hp} {r : Rho} {pos : Pos} {e : Expr}
theorem RmA.snoc {A : List Addr} {xs : List V} {row : List D} {v : V} {d : D} (h : RmA c.K c.cm A S xs row) (hv : RmV c.K c.cm A S v d) : RmA c.K c.cm A S (xs ++ [v]) (row ++ [d]) := by
  refine ⟨by rw [List.length_append, List.length_append, h.1]; rfl, fun i u b hu hb => ?_⟩
  by_cases hi : i < row.length
  · rw [List.getElem?_append_left (by rw [h.1]; exact hi)] at hu
    rw [List.getElem?_append_left hi] at hb
    exact h.2 i u b hu hb
  · rw [List.getElem?_append_right (by rw [h.1]; omega), h.1] at hu
    rw [List.getElem?_append_right (by omega)] at hb
    cases hz : i - row.length with
    | zero =>
      rw [hz] at hu hb
      cases hu; cases hb
      exact hv
    | succ n =>
      rw [hz] at hb
      simp at hb
variable {a b : Expr} {f1 f2 : Rho → Res D} {p1 p2 : Pos}
end
end Dx
end S_DxAZ
section S_DxBA
set_option Elab.async false
set_option linter.all false
set_option maxRecDepth 100000
set_option maxHeartbeats 2000000
namespace Dx
open PySem L2
open PyProof.Rows hiding St
end Dx
end S_DxBA
section S_DxBB
set_option Elab.async false
set_option linter.all false
set_option maxRecDepth 100000
set_option maxHeartbeats 2000000
namespace Dx
open PySem L2
open PyProof.Rows hiding St
section
variable {X : Cx} {c : Cf} {L G G' : List Ow} {σ : St} {S0 H0 S H S' H' : Hp} {r : Rho} {pos : Pos} {e : Expr}
theorem RmV.plain {A : List Addr} {v : V} {d : D} (h : RmV c.K c.cm A S v d) (ho : isOwn d = false) : Rp c.K c.cm S v d := by
  rcases h with h | ⟨j, a, e, _⟩
  · exact h
  · subst e; cases ho
end
end Dx
end S_DxBB
section S_DxBC
set_option Elab.async false
set_option linter.all false
set_option maxRecDepth 100000
set_option maxHeartbeats 2000000
namespace Dx
open PySem L2
open PyProof.Rows hiding St
inductive ModR (K : PySem.W.Frag) : List DictEntry → List (Str × D) → Prop
  | nil : ModR K [] []
  | cons {h : Int} {x y : Str} {t : Tok} {u : Value} {r : List DictEntry} {v : V} {d : D} {rows : List (Str × D)} (h0 : x = y) (h2 : RelV v u) (h3 : ∀ (cm : CM) S, Rp K cm S v d) (h4 : ModR K r rows) :
      ModR K (⟨h, .str x t, u⟩ :: r) ((y, d) :: rows)
def ModD (K : PySem.W.Frag) (w : World) (a : Addr) (rows : List (Str × D)) : Prop := ∃ es n, KDict K w a es n ∧ ModR K es.toList rows
theorem ModD.mk {K : PySem.W.Frag} {w : World} {a : Addr} {es : List DictEntry} {n : Nat} {rows : List (Str × D)} (h1 : K.lookup a = some ⟨.type "dict", none, .dict es.toArray n, #[]⟩) (h2 : PySem.W.KeysLit w.params es) (h3 : (a == sysModules) = false) (h4 : ModR K es rows) :
    ModD K w a rows := ⟨_, n, ⟨h1, by simpa using h2, h3⟩, by simpa using h4⟩
end Dx
end S_DxBC
section S_DxBD
set_option Elab.async false
set_option linter.all false
set_option maxRecDepth 100000
set_option maxHeartbeats 2000000
namespace Dx
open PySem L2 ItX
open PyProof.Rows hiding St
end Dx
end S_DxBD
section S_DxBE
set_option Elab.async false
set_option linter.all false
set_option maxRecDepth 100000
set_option maxHeartbeats 2000000
namespace Dx
open PySem L2 ItX
open PyProof.Rows hiding St
end Dx
end S_DxBE
section S_DxBF
set_option Elab.async false
set_option linter.all false
set_option maxRecDepth 100000
set_option maxHeartbeats 2000000
namespace PySem
namespace F
theorem typeCall_zipT2 (a b : Value) : checkTypeCall "zip" ⟨[a, b], []⟩ = pure () := by kernel_rfl
theorem newCall_zipT2 (a b : Value) : checkBuiltinCall "zip.__new__" ⟨[.type "zip", a, b], []⟩ = pure () := by kernel_rfl
theorem args_object_initT2 (a b c : Value) : argsOk "object.__init__" ⟨[a, b, c], []⟩ := by
  unfold argsOk; rw [signature?_of (id := "object.__init__") (n := ['_', '_', 't', 'i', 'n', 'i', '_', '_']) (o := ['t', 'c', 'e', 'j', 'b', 'o']) (by kernel_rfl) owner_object]; kernel_rfl
end F
end PySem
namespace RZ
open PySem
open PySem.Sem (wp)
section
variable {prog : Program} {w : World} {A : Around} {E : Value → Shared → Prop} {s : Shared}
structure ZapT2 (z TI TO i1 i2 l1 l2 : Addr) : Prop where
  n_TI_z : TI ≠ z
  n_TI_TO : TI ≠ TO
  n_TI_i1 : TI ≠ i1
  n_TI_i2 : TI ≠ i2
  n_TO_z : TO ≠ z
  n_TO_i1 : TO ≠ i1
  n_TO_i2 : TO ≠ i2
  n_z_TO : z ≠ TO
  n_z_i1 : z ≠ i1
  n_z_i2 : z ≠ i2
  n_i1_z : i1 ≠ z
  n_i1_TO : i1 ≠ TO
  n_i1_i2 : i1 ≠ i2
  n_i2_z : i2 ≠ z
  n_i2_TO : i2 ≠ TO
  n_i2_i1 : i2 ≠ i1
  n_l1_z : l1 ≠ z
  n_l1_TO : l1 ≠ TO
  n_l1_i1 : l1 ≠ i1
  n_l1_i2 : l1 ≠ i2
  n_l2_z : l2 ≠ z
  n_l2_TO : l2 ≠ TO
  n_l2_i1 : l2 ≠ i1
  n_l2_i2 : l2 ≠ i2
theorem zipT2_next_item {z TI TO i1 i2 l1 l2 : Addr} {k : Nat} {xs1 xs2 : Array Value} {a1 a2 : Value} {x1 x2 : Value} {Q : Value → Shared → Prop} (D : ZapT2 z TI TO i1 i2 l1 l2)
    (hz : IsZip s.heap z TI TO .none) (hTI : IsSeq s.heap TI #[.ref i1, .ref i2]) (hTO : IsSeq s.heap TO #[a1, a2])
    (h1 : s.heap.IsTupleIter i1 l1 k) (h2 : s.heap.IsTupleIter i2 l2 k)
    (q1 : s.heap.IsTuple l1 xs1) (q2 : s.heap.IsTuple l2 xs2)
    (e1 : xs1[k]? = some x1) (e2 : xs2[k]? = some x2)
    (hQ : ∀ h', IsZip h' z TI TO (rawInt s.heap.objs.size) → IsSeq h' TO #[x1, x2] → h'.IsTupleIter i1 l1 (k + 1) → h'.IsTupleIter i2 l2 (k + 1) → IsSeq h' s.heap.objs.size #[x1, x2] → h'.objs.size = s.heap.objs.size + 1 →
      (∀ c o, c ≠ z → c ≠ TO → c ≠ i1 → c ≠ i2 → s.heap.get? c = some o → h'.get? c = some o) → Q (.ref s.heap.objs.size) { s with heap := h' }) :
    wpAny (model prog w) A (Builtin.«zip.__next__» ⟨[.ref z], []⟩) (fun fin s' => ∃ v, fin = .done (.ret v) ∧ Q v s') E s := by
  show wpAny _ _ (field (.ref z) 2 >>= _) _ _ _
  refine wpAny_bind (wpAny_field hz rfl (x := .bool false) rfl ?_)
  show wpAny _ _ (field (.ref z) 3 >>= _) _ _ _
  refine wpAny_bind (wpAny_field hz rfl (x := .ref TI) rfl ?_)
  refine wpAny_bind (wpAny_seqItems hTI rfl ?_)
  show wpAny _ _ (Builtin.SmallTypes.ownedTupleIsFree (.ref z) >>= _) _ _ _
  refine wpAny_bind ?_
  unfold Builtin.SmallTypes.ownedTupleIsFree
  refine wpAny_bind (wpAny_field hz rfl (x := .none) rfl (wpAny_pure ?_))
  simp only [if_true]
  refine wpAny_bind (wpAny_rule ?_)
  refine wpAny_bind (wpAny_field hz rfl (x := .ref TO) rfl ?_)
  refine wpAny_bind (wpAny_setField_rec hz (by simp) fun g0 hz0 hs0 => ?_)
  replace hz0 : IsZip g0 z TI TO .ellipsis := hz0
  refine wpAny_bind ?_
  simp only [List.zipIdx_cons, List.zipIdx_nil, List.forIn_cons, List.forIn_nil]
  refine wpAny_bind (wpAny_bind (wpAny_onRaise ?_))
  show wpAny _ _ (Builtin.SmallTypes.nextOf (.ref i1) >>= _) _ _ _
  refine wpAny_bind (nextOf_tuple_item (h1.extBut hs0.extBut D.n_i1_z) (q1.extBut hs0.extBut D.n_l1_z) e1 fun n1 hn1 hsn1 => wpAny_pure ?_)
  have hTOn1 : IsSeq n1 TO #[a1, a2] := (hsn1.extBut _ _ D.n_TO_i1 (hs0.extBut _ _ D.n_TO_z hTO))
  refine wpAny_bind (wpAny_seqItems hTOn1 rfl ?_)
  refine wpAny_bind (updateSeq_seq (by show 2 ≤ sizeLine; decide) hTOn1 fun u1 hTOu1 hsu1 => ?_)
  replace hTOu1 : IsSeq u1 TO #[x1, a2] := hTOu1
  refine wpAny_bind (wpAny_letGo (wpAny_pure ?_))
  refine wpAny_bind (wpAny_bind (wpAny_onRaise ?_))
  show wpAny _ _ (Builtin.SmallTypes.nextOf (.ref i2) >>= _) _ _ _
  refine wpAny_bind (nextOf_tuple_item (((h2.extBut hs0.extBut D.n_i2_z).extBut hsn1.extBut D.n_i2_i1).extBut hsu1.extBut D.n_i2_TO) (((q2.extBut hs0.extBut D.n_l2_z).extBut hsn1.extBut D.n_l2_i1).extBut hsu1.extBut D.n_l2_TO) e2 fun n2 hn2 hsn2 => wpAny_pure ?_)
  have hTOn2 : IsSeq n2 TO #[x1, a2] := (hsn2.extBut _ _ D.n_TO_i2 hTOu1)
  refine wpAny_bind (wpAny_seqItems hTOn2 rfl ?_)
  refine wpAny_bind (updateSeq_seq (by show 2 ≤ sizeLine; decide) hTOn2 fun u2 hTOu2 hsu2 => ?_)
  replace hTOu2 : IsSeq u2 TO #[x1, x2] := hTOu2
  refine wpAny_bind (wpAny_letGo (wpAny_pure (wpAny_pure ?_)))
  refine wpAny_bind (wpAny_seqItems hTOu2 rfl ?_)
  refine wpAny_bind (wpAny_newTuple ?_)
  have hsz : u2.objs.size = s.heap.objs.size := by rw [hsu2.1, hsn2.1, hsu1.1, hsn1.1, hs0.1]
  have hzL : IsZip u2 z TI TO .ellipsis := (hsu2.extBut _ _ D.n_z_TO (hsn2.extBut _ _ D.n_z_i2 (hsu1.extBut _ _ D.n_z_TO (hsn1.extBut _ _ D.n_z_i1 hz0))))
  have hkL : ∀ c o, c ≠ z → c ≠ TO → c ≠ i1 → c ≠ i2 → s.heap.get? c = some o → u2.get? c = some o := fun c o c1 c2 d1 d2 e => (hsu2.extBut _ _ c2 (hsn2.extBut _ _ d2 (hsu1.extBut _ _ c2 (hsn1.extBut _ _ d1 (hs0.extBut _ _ c1 e)))))
  have hL1 : u2.IsTupleIter i1 l1 (k + 1) := (((hn1.extBut hsu1.extBut D.n_i1_TO).extBut hsn2.extBut D.n_i1_i2).extBut hsu2.extBut D.n_i1_TO)
  have hL2 : u2.IsTupleIter i2 l2 (k + 1) := (hn2.extBut hsu2.extBut D.n_i2_TO)
  have hzlt : z < u2.objs.size := Heap.lt_size hzL
  have hTOlt : TO < u2.objs.size := Heap.lt_size hTOu2
  show wpAny _ _ (Builtin.SmallTypes.ownedTupleHandOut (.ref z) (.ref u2.objs.size) >>= _) _ _ _
  refine wpAny_bind ?_
  unfold Builtin.SmallTypes.ownedTupleHandOut
  have hz6 : IsZip (u2.push { cls := .type "tuple", data := .seq #[x1, x2] }) z TI TO .ellipsis := Heap.get?_push_of_some _ hzL
  refine wpAny_bind (wpAny_setField_rec hz6 (by simp) fun h7 hz7 hs7 => ?_)
  replace hz7 : IsZip h7 z TI TO (rawInt u2.objs.size) := hz7
  refine wpAny_setField_rec hz7 (by simp) fun h8 hz8 hs8 => ?_
  replace hz8 : IsZip h8 z TI TO (rawInt u2.objs.size) := hz8
  have up : ∀ c o, c ≠ z → u2.get? c = some o → h8.get? c = some o := fun c o c1 e => hs8.extBut _ _ c1 (hs7.extBut _ _ c1 (Heap.get?_push_of_some _ e))
  have hT8 : IsSeq h8 u2.objs.size #[x1, x2] := hs8.extBut _ _ (Nat.ne_of_gt hzlt) (hs7.extBut _ _ (Nat.ne_of_gt hzlt) (Heap.get?_push_size _ rfl))
  have hz9 : h8.objs.size = u2.objs.size + 1 := by rw [hs8.1, hs7.1, Heap.size_push]
  rw [hsz] at hz8 hT8 hz9
  refine wpAny_pure ⟨_, rfl, ?_⟩
  show Q (.ref u2.objs.size) _
  rw [hsz]
  exact hQ h8 hz8 (up _ _ D.n_TO_z hTOu2) (hL1.at fun o e => up _ o D.n_i1_z e) (hL2.at fun o e => up _ o D.n_i2_z e) hT8 hz9 fun c o c1 c2 d1 d2 e => up c o c1 (hkL c o c1 c2 d1 d2 e)
theorem zipT2_next_end {z TI TO i1 i2 l1 l2 : Addr} {k : Nat} {xs1 xs2 : Array Value} {a1 a2 : Value} {Q : Fin → Shared → Prop} (hh : A.handled = none) (D : ZapT2 z TI TO i1 i2 l1 l2)
    (hz : IsZip s.heap z TI TO .none) (hTI : IsSeq s.heap TI #[.ref i1, .ref i2]) (hTO : IsSeq s.heap TO #[a1, a2])
    (h1 : s.heap.IsTupleIter i1 l1 k) (h2 : s.heap.IsTupleIter i2 l2 k)
    (q1 : s.heap.IsTuple l1 xs1) (q2 : s.heap.IsTuple l2 xs2)
    (hend : xs1[k]? = none ∨ xs2[k]? = none)
    (hE : ∀ h' e, (∀ c o, c ≠ z → c ≠ TO → c ≠ i1 → c ≠ i2 → s.heap.get? c = some o → h'.get? c = some o) → (∃ o, h'.get? e = some o ∧ o.cls = .type "StopIteration") → E (.ref e) { s with heap := h' }) :
    wpAny (model prog w) A (Builtin.«zip.__next__» ⟨[.ref z], []⟩) Q E s := by
  show wpAny _ _ (field (.ref z) 2 >>= _) _ _ _
  refine wpAny_bind (wpAny_field hz rfl (x := .bool false) rfl ?_)
  show wpAny _ _ (field (.ref z) 3 >>= _) _ _ _
  refine wpAny_bind (wpAny_field hz rfl (x := .ref TI) rfl ?_)
  refine wpAny_bind (wpAny_seqItems hTI rfl ?_)
  show wpAny _ _ (Builtin.SmallTypes.ownedTupleIsFree (.ref z) >>= _) _ _ _
  refine wpAny_bind ?_
  unfold Builtin.SmallTypes.ownedTupleIsFree
  refine wpAny_bind (wpAny_field hz rfl (x := .none) rfl (wpAny_pure ?_))
  simp only [if_true]
  refine wpAny_bind (wpAny_rule ?_)
  refine wpAny_bind (wpAny_field hz rfl (x := .ref TO) rfl ?_)
  refine wpAny_bind (wpAny_setField_rec hz (by simp) fun g0 hz0 hs0 => ?_)
  replace hz0 : IsZip g0 z TI TO .ellipsis := hz0
  refine wpAny_bind ?_
  simp only [List.zipIdx_cons, List.zipIdx_nil, List.forIn_cons, List.forIn_nil]
  refine wpAny_bind (wpAny_bind (wpAny_onRaise ?_))
  show wpAny _ _ (Builtin.SmallTypes.nextOf (.ref i1) >>= _) _ _ _
  cases e1 : xs1[k]? with
  | none =>
    refine wpAny_bind (nextOf_tuple_end hh (h1.extBut hs0.extBut D.n_i1_z) (q1.extBut hs0.extBut D.n_l1_z) e1 fun hf e EX he => ?_)
    obtain ⟨oe, hoe, hce⟩ := he
    have hzf : IsZip hf z TI TO .ellipsis := (EX _ _ D.n_z_i1 hz0)
    have hez : e ≠ z := fun x => by subst x; rw [hzf] at hoe; cases hoe; simp at hce
    refine wpAny_setField_rec hzf (by simp) fun hg _ hsg => hE hg e (fun c o c1 c2 d1 d2 x => hsg.extBut _ _ c1 (EX _ _ d1 (hs0.extBut _ _ c1 x))) ⟨oe, hsg.extBut _ _ hez hoe, hce⟩
  | some x1 =>
    refine wpAny_bind (nextOf_tuple_item (h1.extBut hs0.extBut D.n_i1_z) (q1.extBut hs0.extBut D.n_l1_z) e1 fun n1 hn1 hsn1 => wpAny_pure ?_)
    have hTOn1 : IsSeq n1 TO #[a1, a2] := (hsn1.extBut _ _ D.n_TO_i1 (hs0.extBut _ _ D.n_TO_z hTO))
    refine wpAny_bind (wpAny_seqItems hTOn1 rfl ?_)
    refine wpAny_bind (updateSeq_seq (by show 2 ≤ sizeLine; decide) hTOn1 fun u1 hTOu1 hsu1 => ?_)
    replace hTOu1 : IsSeq u1 TO #[x1, a2] := hTOu1
    refine wpAny_bind (wpAny_letGo (wpAny_pure ?_))
    refine wpAny_bind (wpAny_bind (wpAny_onRaise ?_))
    show wpAny _ _ (Builtin.SmallTypes.nextOf (.ref i2) >>= _) _ _ _
    cases e2 : xs2[k]? with
    | none =>
      refine wpAny_bind (nextOf_tuple_end hh (((h2.extBut hs0.extBut D.n_i2_z).extBut hsn1.extBut D.n_i2_i1).extBut hsu1.extBut D.n_i2_TO) (((q2.extBut hs0.extBut D.n_l2_z).extBut hsn1.extBut D.n_l2_i1).extBut hsu1.extBut D.n_l2_TO) e2 fun hf e EX he => ?_)
      obtain ⟨oe, hoe, hce⟩ := he
      have hzf : IsZip hf z TI TO .ellipsis := (EX _ _ D.n_z_i2 (hsu1.extBut _ _ D.n_z_TO (hsn1.extBut _ _ D.n_z_i1 hz0)))
      have hez : e ≠ z := fun x => by subst x; rw [hzf] at hoe; cases hoe; simp at hce
      refine wpAny_setField_rec hzf (by simp) fun hg _ hsg => hE hg e (fun c o c1 c2 d1 d2 x => hsg.extBut _ _ c1 (EX _ _ d2 (hsu1.extBut _ _ c2 (hsn1.extBut _ _ d1 (hs0.extBut _ _ c1 x))))) ⟨oe, hsg.extBut _ _ hez hoe, hce⟩
    | some x2 =>
      rcases hend with h | h
      · rw [e1] at h; cases h
      · rw [e2] at h; cases h
theorem pyNext_zipT2_item {z TI TO i1 i2 l1 l2 : Addr} {k : Nat} {xs1 xs2 : Array Value} {a1 a2 : Value} {x1 x2 : Value} {Q : Option Value → Shared → Prop} (D : ZapT2 z TI TO i1 i2 l1 l2)
    (hz : IsZip s.heap z TI TO .none) (hTI : IsSeq s.heap TI #[.ref i1, .ref i2]) (hTO : IsSeq s.heap TO #[a1, a2])
    (h1 : s.heap.IsTupleIter i1 l1 k) (h2 : s.heap.IsTupleIter i2 l2 k)
    (q1 : s.heap.IsTuple l1 xs1) (q2 : s.heap.IsTuple l2 xs2)
    (e1 : xs1[k]? = some x1) (e2 : xs2[k]? = some x2)
    (hQ : ∀ h', IsZip h' z TI TO (rawInt s.heap.objs.size) → IsSeq h' TO #[x1, x2] → h'.IsTupleIter i1 l1 (k + 1) → h'.IsTupleIter i2 l2 (k + 1) → IsSeq h' s.heap.objs.size #[x1, x2] → h'.objs.size = s.heap.objs.size + 1 →
      (∀ c o, c ≠ z → c ≠ TO → c ≠ i1 → c ≠ i2 → s.heap.get? c = some o → h'.get? c = some o) → Q (some (.ref s.heap.objs.size)) { s with heap := h' }) : wpAny (model prog w) A (pyNext (.ref z)) Q E s := by
  have hT : s.TypeIs (.ref z) "zip" := ⟨_, hz, rfl⟩
  unfold pyNext
  exact wpAny_bind (wpAny_attempt (wpAny_callSpecial?_slot (name := Str.ofString "__next__") hT F.slot_zip_next
    (wpAny_call_entry F.slot_zip_next hT F.entry_zip_next
      (zipT2_next_item D hz hTI hTO h1 h2 q1 q2 e1 e2 fun h' b0 b1 b2 b3 b4 b5 b6 => wpAny_pure (hQ h' b0 b1 b2 b3 b4 b5 b6)) (F.args_zip_next_1 _))))
theorem pyNext_zipT2_end {z TI TO i1 i2 l1 l2 : Addr} {k : Nat} {xs1 xs2 : Array Value} {a1 a2 : Value} {Q : Option Value → Shared → Prop} (hh : A.handled = none) (D : ZapT2 z TI TO i1 i2 l1 l2)
    (hz : IsZip s.heap z TI TO .none) (hTI : IsSeq s.heap TI #[.ref i1, .ref i2]) (hTO : IsSeq s.heap TO #[a1, a2])
    (h1 : s.heap.IsTupleIter i1 l1 k) (h2 : s.heap.IsTupleIter i2 l2 k)
    (q1 : s.heap.IsTuple l1 xs1) (q2 : s.heap.IsTuple l2 xs2)
    (hend : xs1[k]? = none ∨ xs2[k]? = none)
    (hQ : ∀ h', (∀ c o, c ≠ z → c ≠ TO → c ≠ i1 → c ≠ i2 → s.heap.get? c = some o → h'.get? c = some o) → Q none { s with heap := h' }) : wpAny (model prog w) A (pyNext (.ref z)) Q E s := by
  have hT : s.TypeIs (.ref z) "zip" := ⟨_, hz, rfl⟩
  unfold pyNext
  refine wpAny_bind (wpAny_attempt (wpAny_callSpecial?_slot (name := Str.ofString "__next__") hT F.slot_zip_next
    (wpAny_call_entry F.slot_zip_next hT F.entry_zip_next (zipT2_next_end hh D hz hTI hTO h1 h2 q1 q2 hend fun h' e hk he => ?_) (F.args_zip_next_1 _))))
  obtain ⟨o, ho, hc⟩ := he
  refine wpAny_bind (wpAny_isInstance (T := "StopIteration") (b := true) ⟨o, ho, hc⟩ isSubtype_stop ?_)
  exact wpAny_pure (hQ _ hk)
end
abbrev zipT2H1 (h : Heap) (l1 : Addr) : Heap := h.push { cls := .type "tuple_iterator", data := .fields #[.ref l1, .int 0 0] }
abbrev zipT2H2 (h : Heap) (l1 l2 : Addr) : Heap := (zipT2H1 h l1).push { cls := .type "tuple_iterator", data := .fields #[.ref l2, .int 0 0] }
abbrev zipT2H3 (h : Heap) (l1 l2 : Addr) : Heap := (zipT2H2 h l1 l2).push { cls := .type "tuple", data := .seq #[.ref h.objs.size, .ref (zipT2H1 h l1).objs.size] }
abbrev zipT2H4 (h : Heap) (l1 l2 : Addr) : Heap := (zipT2H3 h l1 l2).push { cls := .type "tuple", data := .seq #[.none, .none] }
abbrev zipT2H5 (h : Heap) (l1 l2 : Addr) : Heap := (zipT2H4 h l1 l2).push { cls := .type "zip", data := .fields #[.none, .bool false, .bool false, .ref (zipT2H2 h l1 l2).objs.size, .ref (zipT2H3 h l1 l2).objs.size] }
theorem meets_zipT2_new (l1 l2 : Addr) (xs1 xs2 : Array Value) :
    Meets (Builtin.«zip.__new__» ⟨[.type "zip", .ref l1, .ref l2], []⟩) (fun _ R s => s.heap.IsTuple l1 xs1 ∧ s.heap.IsTuple l2 xs2 ∧
      R (.ok (.ret (.ref (zipT2H4 s.heap l1 l2).objs.size))) { s with heap := zipT2H5 s.heap l1 l2 }) :=
  .of_wp fun prog w A R s h => by
    obtain ⟨hp, g, d, tk, os⟩ := s; obtain ⟨hl1, hl2, h⟩ := h
    have hsub := sub_zip
    have hL1 : Heap.IsTuple (Shared.heap ⟨hp, g, d, tk, os⟩) l1 xs1 := hl1
    have hL2 : Heap.IsTuple (Shared.heap ⟨zipT2H1 hp l1, g, d, tk, os⟩) l2 xs2 := (Heap.IsTuple.push hl2 _)
    wp_walk using wpAny_pyIter_tuple hL1, wpAny_pyIter_tuple hL2
    exact ⟨_, rfl, h⟩
section
variable {prog : Program} {w : World} {A : Around} {E : Value → Shared → Prop} {s : Shared}
theorem call_zipT2 {l1 l2 : Addr} {xs1 xs2 : Array Value} {Q : Value → Shared → Prop} (hl1 : s.heap.IsTuple l1 xs1) (hl2 : s.heap.IsTuple l2 xs2)
    (h : ∀ h', IsZip h' (s.heap.objs.size + 4) (s.heap.objs.size + 2) (s.heap.objs.size + 3) .none → IsSeq h' (s.heap.objs.size + 2) #[.ref s.heap.objs.size, .ref (s.heap.objs.size + 1)] → IsSeq h' (s.heap.objs.size + 3) #[.none, .none] → h'.IsTupleIter s.heap.objs.size l1 0 → h'.IsTupleIter (s.heap.objs.size + 1) l2 0 → h'.objs.size = s.heap.objs.size + 5 →
      (∀ c o, s.heap.get? c = some o → h'.get? c = some o) → Q (.ref (s.heap.objs.size + 4)) { s with heap := h' }) :
    wpAny (model prog w) A (call (.type "zip") [.ref l1, .ref l2]) Q E s := by
  refine callType_new F.called_zip (by decide) (F.typeCall_zipT2 _ _) (F.newCall_zipT2 _ _) (fun obj => F.args_object_initT2 obj _ _) F.entry_zip_new
    (meets_zipT2_new l1 l2 xs1 xs2) ⟨hl1, hl2, ?_⟩
  have z1 : (zipT2H1 s.heap l1).objs.size = s.heap.objs.size + 1 := Heap.size_push ..
  have z2 : (zipT2H2 s.heap l1 l2).objs.size = s.heap.objs.size + 2 := by rw [Heap.size_push, z1]
  have z3 : (zipT2H3 s.heap l1 l2).objs.size = s.heap.objs.size + 3 := by rw [Heap.size_push, z2]
  have z4 : (zipT2H4 s.heap l1 l2).objs.size = s.heap.objs.size + 4 := by rw [Heap.size_push, z3]
  have z5 : (zipT2H5 s.heap l1 l2).objs.size = s.heap.objs.size + 5 := by rw [Heap.size_push, z4]
  have g1 : (zipT2H5 s.heap l1 l2).get? s.heap.objs.size = some _ := (Heap.get?_push_of_some _ (Heap.get?_push_of_some _ (Heap.get?_push_of_some _ (Heap.get?_push_of_some _ (Heap.get?_push_size _ rfl)))))
  have g2 : (zipT2H5 s.heap l1 l2).get? (zipT2H1 s.heap l1).objs.size = some _ := (Heap.get?_push_of_some _ (Heap.get?_push_of_some _ (Heap.get?_push_of_some _ (Heap.get?_push_size _ rfl))))
  have g3 : (zipT2H5 s.heap l1 l2).get? (zipT2H2 s.heap l1 l2).objs.size = some _ := (Heap.get?_push_of_some _ (Heap.get?_push_of_some _ (Heap.get?_push_size _ rfl)))
  have g4 : (zipT2H5 s.heap l1 l2).get? (zipT2H3 s.heap l1 l2).objs.size = some _ := (Heap.get?_push_of_some _ (Heap.get?_push_size _ rfl))
  have g5 : (zipT2H5 s.heap l1 l2).get? (zipT2H4 s.heap l1 l2).objs.size = some _ := (Heap.get?_push_size _ rfl)
  show _ ∧ _
  rw [z1] at g2
  rw [z2] at g3
  rw [z3] at g4
  rw [z4] at g5
  rw [z1] at g3
  rw [z2, z3] at g5
  rw [z4]
  exact ⟨⟨_, g5, rfl⟩, h _ g5 g3 g4 ⟨_, g1, rfl, rfl⟩ ⟨_, g2, rfl, rfl⟩ z5 fun c o x => (Heap.get?_push_of_some _ (Heap.get?_push_of_some _ (Heap.get?_push_of_some _ (Heap.get?_push_of_some _ (Heap.get?_push_of_some _ x)))))⟩
end
end RZ
end S_DxBF
section S_DxBG
set_option Elab.async false
set_option linter.all false
set_option maxRecDepth 100000
set_option maxHeartbeats 2000000
namespace RZ
open PySem PySem.Spec PyProof.Rows L2
theorem zapT2_mk (I l1 l2 : Nat) (h1 : l1 < I) (h2 : l2 < I) : ZapT2 (I + 4) (I + 2) (I + 3) I (I + 1) l1 l2 := by
  constructor <;> (refine PySem.W.neN ?_; omega)
end RZ
namespace Dx
open PySem L2
end Dx
end S_DxBG
section S_DxBH
set_option Elab.async false
set_option linter.all false
set_option maxRecDepth 100000
set_option maxHeartbeats 2000000
namespace Dx
open PySem L2
end Dx
end S_DxBH
section S_DxBI
set_option Elab.async false
set_option linter.all false
set_option maxRecDepth 100000
set_option maxHeartbeats 2000000
namespace Dx
open PySem L2
end Dx
end S_DxBI
section S_DxBJ
set_option Elab.async false
set_option linter.all false
set_option maxRecDepth 100000
set_option maxHeartbeats 2000000
namespace OT
open PySem PySem.SeqAt
end OT
namespace Dx
open PySem L2 OT
/-- a number, and whether it is a bool -/
inductive NB where
  | i (n : Int)
  | b (x : Bool)
def NB.v : NB → V
  | .i n => .int n
  | .b x => .bl x
end Dx
end S_DxBJ
section S_DxBK
set_option Elab.async false
set_option linter.all false
set_option maxRecDepth 100000
set_option maxHeartbeats 2000000
namespace L2
open PySem PySem.Spec PyProof.Rows
end L2
end S_DxBK
section S_DxBL
set_option Elab.async false
set_option linter.all false
set_option maxRecDepth 100000
set_option maxHeartbeats 2000000
namespace Dx
open PySem L2 ItX
open PyProof.Rows hiding St
end Dx
end S_DxBL
section S_DxBM
set_option Elab.async false
set_option linter.all false
set_option maxRecDepth 100000
set_option maxHeartbeats 2000000
namespace Dx
open PySem L2 ItX
end Dx
end S_DxBM
section S_DxBN
set_option Elab.async false
set_option linter.all false
set_option maxRecDepth 100000
set_option maxHeartbeats 2000000
namespace Dx
open PySem PySem.Spec L2 ItX PyProof.Rows
end Dx
end S_DxBN
section S_DxBO
set_option Elab.async false
set_option linter.all false
set_option maxRecDepth 100000
set_option maxHeartbeats 2000000
namespace Dx
open PySem PySem.Spec L2 ItX PyProof.Rows
end Dx
end S_DxBO
section S_DxBP
set_option Elab.async false
set_option linter.all false
set_option maxRecDepth 100000
set_option maxHeartbeats 2000000
namespace Dx
open PySem L2 ItX PyProof.Rows
def kwObj : Obj := { cls := .type "dict", data := .dict #[] }
def kwFill (d : Addr) : List (Str × Value) → Sem Unit
  | [] => pure ()
  | (k, v) :: l => do nsSet d k v; kwFill d l
theorem kwFill_fold (d : Addr) : ∀ l : List (Str × Value), List.foldlM (m := Sem) (fun (_ : PUnit) a => nsSet d a.1 a.2) PUnit.unit l = kwFill d l
  | [] => rfl
  | (k, v) :: l => by
    rw [List.foldlM_cons]
    show (nsSet d k v >>= fun s' => List.foldlM _ s' l) = (nsSet d k v >>= fun _ => kwFill d l)
    refine congrArg _ (funext fun s' => ?_)
    exact kwFill_fold d l
theorem forIn_put {β : Type} {f : Str × Value → β × List (Str × Value) → Sem (ForInStep (β × List (Str × Value)))} : ∀ (l : List (Str × Value)) (s : β × List (Str × Value)), (∀ x ∈ l, ∀ s, f x s = pure (.yield (s.1, s.2 ++ [x]))) → forIn l s f = pure (s.1, s.2 ++ l)
  | [], s, _ => by rw [List.forIn_nil, List.append_nil]
  | x :: l, s, h => by
    rw [List.forIn_cons, h x List.mem_cons_self, pure_bind]
    dsimp only
    rw [forIn_put l _ fun y hy => h y (List.mem_cons_of_mem _ hy)]
    simp
theorem bind_kw {name qual : Str} {a0 pd : Arg} {body : List Stmt} {scope : Scope} {kV doc pm cdv ct : Value} {an : Option Addr} (u : Value) (l : List (Str × Value)) (hl : ∀ x ∈ l, x.1 ≠ a0.arg) (hz : l.length ≤ sizeLine) :
    bindArgs (PySem.W.fnOf name qual ⟨[], [a0], none, [], [], some pd, []⟩ body scope .none kV doc pm an cdv ct) ⟨[u], l⟩ = (do let d ← alloc kwObj; kwFill d l; pure [(a0.arg, u), (pd.arg, .ref d)]) := by
  unfold bindArgs
  simp only [PySem.W.fnOf]
  rw [forIn_put l _ fun x hx s => ?_]
  · rw [pure_bind]
    have hs : seqItems? Value.none = pure none := rfl
    rw [hs, pure_bind]
    have hz' : ¬ l.length > sizeLine + 1 := by omega
    simp [List.lookup, hz', kwFill_fold]
    rfl
  · have h1 : ((List.map (fun x : Arg => x.arg) [a0]).contains x.1 || (List.map (fun x : Arg => x.arg) []).contains x.1) = false := by
      have := hl x hx
      simp [this]
    rw [if_neg (by rw [h1]; exact Bool.false_ne_true), if_pos (show (some pd).isSome = true from rfl)]
theorem mem_pairs {P : Program} {w : World} {K : Type} [DecidableEq K] {knd : PySem.KeyKind P w K} : ∀ {es : List DictEntry} {kvs : List (K × Value)}, Pairs knd es kvs → ∀ {e : DictEntry}, e ∈ es → ∃ kv ∈ kvs, knd.is kv.1 e.key = true := by
  intro es kvs h
  induction h with
  | nil => intro e he; simp at he
  | cons h1 h2 _ ih =>
    intro e he
    rcases List.mem_cons.mp he with rfl | he
    · exact ⟨_, List.mem_cons_self, h1⟩
    · obtain ⟨kv, a, b⟩ := ih he
      exact ⟨kv, List.mem_cons_of_mem _ a, b⟩
/-- a name more in a dict of texts -/
theorem nsSet_new {P : Program} {w : World} {A : Around} {E : Value → Shared → Prop} {s : Shared} {d : Addr} {kvs : List (Key × Value)} {name : Str} {v : Value} {Q : Unit → Shared → Prop} (hm : s.heap.DictOf (mixKind P w) d kvs) (hn : (Sum.inr name : Key) ∉ kvs.map (·.1))
    (hQ : ∀ h', h'.DictOf (mixKind P w) d (kvs ++ [(Sum.inr name, v)]) → Heap.SameBut d s.heap h' → Q () { s with heap := h', toks := s.toks + 1 }) : wpAny (model P w) A (nsSet d name v) Q E s := by
  obtain ⟨o, es, ep, ho, hc, hd, hk, hp, hnd⟩ := hm
  intro Γ p _
  simp only [nsSet, strHash, Sem.wp_bind', Sem.wp_cmd_ask, Sem.wp_pure', Sem.wp_cmd_mkText]
  rw [Sem.wp_loadPart_of _ Γ _ p { s with toks := s.toks + 1 } (o := o) _ ho]
  have hany : es.any (·.refKey) = false := by
    rw [Array.any_eq_false']
    intro e he
    obtain ⟨k, h1, _⟩ := hk e he
    rcases keyIs_shape (show keyIs k e.key = true from h1) with ⟨i, t, _, h⟩ | ⟨x, t, _, h⟩ <;> simp [DictEntry.refKey, h]
  have hf : es.findIdx? (·.key.isStr name) = none := by
    rw [Array.findIdx?_eq_none_iff]
    intro e he
    obtain ⟨k, h1, _⟩ := hk e he
    cases hq : e.key.isStr name with
    | false => rfl
    | true =>
      refine absurd ?_ hn
      have hke : (mixKind P w).is (Sum.inr name) e.key = true := by
        rcases keyIs_shape (show keyIs k e.key = true from h1) with ⟨i, t, _, h⟩ | ⟨x, t, _, h⟩
        · rw [h] at hq; cases hq
        · rw [h] at hq ⊢; exact hq
      obtain ⟨kv, hkv, e2⟩ := mem_pairs hp (Array.mem_toList_iff.mpr he)
      have := (mixKind P w).inj _ _ _ e2 hke
      exact List.mem_map.mpr ⟨kv, hkv, this⟩
  simp only [hd, aRefKeyMayBeTheName_eq, aRefKeyMayBeTheNameByArray, hany, Bool.and_false, Bool.false_eq_true, if_false, Sem.wp_cmd_updatePart]
  refine ⟨by rw [ho]; rfl, hQ _ ?_ (Heap.SameBut.update ..)⟩
  obtain ⟨c, dd, dt, sl⟩ := o
  subst hd
  refine ⟨_, _, ep + 1, Heap.get?_update_self _ ho (by simp only [Obj.putName_eq, Obj.putNameByArray, hf]; rfl), ?_, by simp only [Obj.putName_eq, Obj.putNameByArray, hf]; rfl, ?_, ?_, ?_⟩
  · simp only [Obj.putName_eq, Obj.putNameByArray, hf]
    exact hc
  · exact hk.push (k := Sum.inr name) (mixKind_str P w name _) v
  · have := hp.append (k := Sum.inr name) (mixKind_str P w name s.toks) (keyH w (.inr name)) v
    rw [Array.toList_push]
    exact this
  · rw [List.map_append, List.nodup_append]
    refine ⟨hnd, by simp, fun a ha b hb e => hn ?_⟩
    rw [List.map_singleton, List.mem_singleton] at hb
    have hb' : b = Sum.inr name := hb
    rw [← hb', ← e]; exact ha
theorem fill_ok {P : Program} {w : World} {A : Around} {E : Value → Shared → Prop} {d : Addr} {Q : Unit → Shared → Prop} : ∀ (l : List (Str × Value)) (acc : List (Key × Value)) (s : Shared), s.heap.DictOf (mixKind P w) d acc → (acc.map (·.1) ++ l.map fun x => (Sum.inr x.1 : Key)).Nodup →
    (∀ h' tk, h'.DictOf (mixKind P w) d (acc ++ l.map fun x => ((Sum.inr x.1 : Key), x.2)) → (∀ b o, b ≠ d → s.heap.get? b = some o → h'.get? b = some o) → s.heap.objs.size ≤ h'.objs.size → Q () { s with heap := h', toks := tk }) → wpAny (model P w) A (kwFill d l) Q E s
  | [], acc, s, hm, _, hQ => by
    have := hQ s.heap s.toks (by simpa using hm) (fun _ _ _ h => h) (Nat.le_refl _)
    exact wpAny_pure this
  | (k, v) :: l, acc, s, hm, hn, hQ => by
    show wpAny _ _ (nsSet d k v >>= fun _ => kwFill d l) _ _ s
    have h1 : (Sum.inr k : Key) ∉ acc.map (·.1) := fun hin => by
      rw [List.nodup_append] at hn
      exact hn.2.2 _ hin _ (List.mem_cons_self) rfl
    refine wpAny_bind (nsSet_new hm h1 fun h' hm' hs => ?_)
    refine fill_ok l _ _ hm' (by rw [List.map_append, List.append_assoc]; exact hn) fun h2 tk hd hk hz => ?_
    have e : acc ++ [((Sum.inr k : Key), v)] ++ l.map (fun x => ((Sum.inr x.1 : Key), x.2)) = acc ++ ((k, v) :: l).map fun x => ((Sum.inr x.1 : Key), x.2) := by rw [List.append_assoc]; rfl
    rw [e] at hd
    refine hQ h2 tk hd (fun b o hb hg => hk b o hb (hs.extBut b o hb hg)) ?_
    rw [← hs.1]; exact hz
section
variable {P : Program} {w : World} {K : PySem.W.Frag} {mg : Str → Option Value} {base : Heap} {A : Around} {outer : List Env} {s : Shared} {H : Hp}
theorem env0_laidH {h' : Heap} {tk : Nat} {a : Addr} {u : HO} (e0 : Env0 P w K mg base A outer s H) (kp : ∀ b x, s.heap.get? b = some x → h'.get? b = some x) (hz : s.heap.objs.size ≤ h'.objs.size) (ha : s.heap.objs.size ≤ a) (new : ObjOk P w (upd H a u) h' a u) :
    Env0 P w K mg base A outer { s with heap := h', toks := tk } (upd H a u) := by
  refine ⟨e0.frames, e0.mod, fun b x e => ⟨kp b x (e0.bs b x e).1, ?_⟩, Nat.le_trans e0.bsz hz, Heap.FunFrames.of_keeps (fun b x e _ => ⟨x, kp b x e, rfl⟩) e0.funs, fun b hb => ?_, e0.hok.laid kp ha new, e0.bare⟩
  · rw [upd_ne (Nat.ne_of_lt (Nat.lt_of_lt_of_le (Heap.lt_size (e0.bs b x e).1) ha))]
    exact (e0.bs b x e).2
  · obtain ⟨_, x, hx, _⟩ := e0.funs.mem hb
    rw [upd_ne (Nat.ne_of_lt (Nat.lt_of_lt_of_le (Heap.lt_size hx) ha))]
    exact e0.frf b hb
end
/-- what is written by keywords, as entries of a dict -/
abbrev kwE {α : Type} (l : List (Str × α)) : List (Key × α) := l.map fun x => (Sum.inr x.1, x.2)
abbrev KWs : List (Str × V) → List (Str × Value) → Prop := Paired fun (p : Str × V) (q : Str × Value) => p.1 = q.1 ∧ RelV p.2 q.2
theorem KWs.kv : ∀ {a : List (Str × V)} {b : List (Str × Value)}, KWs a b → KV (kwE a) (kwE b)
  | _, _, .nil => .nil
  | _, _, .cons h t => .cons ⟨congrArg Sum.inr h.1, h.2⟩ (KWs.kv t)
theorem KWs.keys : ∀ {a : List (Str × V)} {b : List (Str × Value)}, KWs a b → b.map (·.1) = a.map (·.1)
  | _, _, .nil => rfl
  | _, _, .cons h t => by rw [List.map_cons, List.map_cons, KWs.keys t, h.1]
theorem KWs.zip : ∀ {ks : List Str} {vs : List V} {us : List Value}, Vals vs us → KWs (ks.zip vs) (ks.zip us)
  | [], _, _, _ => .nil
  | _ :: _, _, _, .nil => .nil
  | _ :: _, _, _, .cons h t => .cons ⟨rfl, h⟩ (KWs.zip t)
/-- a method m(self, **d) -/
structure FnKW (P : Program) (w : World) (K : PySem.W.Frag) (mg : Str → Option Value) (base : Heap) (k : Nat) (f : Addr) (p0 : Str) (sp : Sp) : Prop where
  run : ∀ (A : Around) (outer : List Env) (s : Shared) (H : Hp) (u : Value) (v : V) (l : List (Str × Value)) (kvs : List (Str × V)) (Q : VK) (E : XK), Room k A → Env0 P w K mg base A outer s H → RelV v u → KWs kvs l → (kvs.map (·.1)).Nodup → p0 ∉ kvs.map (·.1) → kvs.length ≤ sizeLine →
    (∀ p o, H p = none → sp [v, .ref p] (upd H p (.frz o (.dK (kwE kvs)))) Q E) → codeAny (model P w) A (.call (.ref f) ⟨[u], l⟩) (CR (L2.CX P w) outer P w H s Q E) s
section
variable {P : Program} {w : World} {K : PySem.W.Frag} {mg : Str → Option Value} {base : Heap} {cm : CM}
theorem body_of {qual : Str} {st : Stmt} {f : Addr} {N : List Str} {ms : List Bool} {rm : Bool} {G' : List Ow} {Fb : Rho → SR} {cdv : Value} {A : Around} {outer : List Env} {s : Shared} {H : Hp} {vs : List V} {Q : VK} {E : XK} (hn : ms.length ≤ N.length)
    (hb : PSs (cxOf (L2.CX P w) P w K mg base N qual (defScope st) f cdv A outer s H E) (defBody st) (sD (cfE K cm rm E) [] (G0 ms N.length) G' Fb)) (h : spD K cm ms rm (runF N.length rm Fb) vs H Q E) :
    ∃ t, PSs (cxOf (L2.CX P w) P w K mg base N qual (defScope st) f cdv A outer s H E) (defBody st) t ∧ t { nx := fun _ H' => Q .non H', rt := Q } (start N vs) H := by
  obtain ⟨S, ds, ex, m, q⟩ := h
  refine ⟨_, hb, S, H, S, startR N.length ds, env_start ex (RpM.cf (c := ⟨K, cm, fun _ _ _ _ => False, none, rm⟩) (c' := cfE K cm rm E) rfl rfl m) hn, ?_⟩
  unfold runF at q
  cases hF : Fb (startR N.length ds) with
  | rt d =>
    rw [hF] at q
    show PostS _ _ _ _ _ (.rt d) _
    unfold PostS
    dsimp only
    cases rm with
    | true => exact fun p ho S' H' fw n ns hp hh => q S' H' fw _ ⟨p, ho, rfl, n, ns, hp, hh⟩
    | false => exact fun v S' H' fw hv => q S' H' fw v hv
  | nx r =>
    rw [hF] at q
    cases rm with
    | true => exact q.elim
    | false => exact fun σ' S' H' ok => q S' H' ok.fwd _ Rp.non
  | er r n ns vs =>
    rw [hF] at q
    exact fun C dd σ' S' H' fs h1 fw _ h2 h3 h4 => q C dd S' H' fs h1 fw h2 h3 h4
  | bk r => rw [hF] at q; exact q.elim
  | ct r => rw [hF] at q; exact q.elim
  | bad => rw [hF] at q; exact q.elim
/-- THE RULE for it -/
theorem dokKW {x qual : Str} {st : Stmt} {f : Addr} {fd : FuncData} {N : List Str} {k : Nat} {a0 pd : Arg} {rm : Bool} {G' : List Ow} {Fb : Rho → SR} (F : Fun K x qual st f fd) (S : FnScope N [a0.arg, pd.arg] (defScope st)) (hn : 2 ≤ N.length) (ha : defArgs st = ⟨[], [a0], none, [], [], some pd, []⟩)
    (hb : ∀ (cdv : Value) (A : Around) (outer : List Env) (s : Shared) (H : Hp) (E : XK), Room k (A.deeper (PyProof.Rows.envOfC qual (defScope st) s.heap.objs.size f cdv)) →
      PSs (cxOf (L2.CX P w) P w K mg base N qual (defScope st) f cdv A outer s H E) (defBody st) (sD (cfE K cm rm E) [] (G0 [true, false] N.length) G' Fb)) :
    FnKW P w K mg base (k + 1) f a0.arg (spD K cm [true, false] rm (runF N.length rm Fb)) := by
  refine ⟨fun A outer s H u v l kvs Q E hr e0 r rk nd np hz hsp => ?_⟩
  obtain ⟨oc, od, kV, doc, pm, an, cdv, ct, osl, rfl, lk, hcd⟩ := F.ex
  have hfresh : H s.heap.objs.size = none := e0.hok.fresh (Nat.le_refl _)
  refine StX.run_bnd lk hcd S hr e0 (G := fun xs H2 => ∃ p o, H p = none ∧ xs = [v, .ref p] ∧ H2 = upd H p (.frz o (.dK (kwE kvs)))) (fun A' Ex' Q' h => ?_) fun s2 H2 xs ⟨p, o, hp, ex, eH⟩ hr' => ?_
  · rw [ha]
    have hl : ∀ x ∈ l, x.1 ≠ a0.arg := fun x hx e => np (by rw [← rk.keys, ← e]; exact List.mem_map_of_mem hx)
    have hz' : l.length ≤ sizeLine := by have := congrArg List.length rk.keys; rw [List.length_map, List.length_map] at this; omega
    rw [bind_kw u l hl hz']
    refine wpAny_bind (wpAny_alloc ?_)
    have hsz : sysModules < s.heap.objs.size := StX.env0_big e0
    refine wpAny_bind (fill_ok l [] _ (Heap.DictOf.new s.heap) ?_ fun h' tk hd hk hsz' => ?_)
    · show (l.map fun x => (Sum.inr x.1 : Key)).Nodup
      have : (l.map fun x => (Sum.inr x.1 : Key)) = (kvs.map (·.1)).map Sum.inr := by rw [← rk.keys, List.map_map]; rfl
      rw [this]
      exact List.Pairwise.map (R := fun a b : Str => a ≠ b) Sum.inr (fun a b (hab : a ≠ b) e => hab (Sum.inr.inj e)) nd
    · have hsz2 : s.heap.objs.size + 1 ≤ h'.objs.size := by
        have e1 : (s.heap.push kwObj).objs.size = s.heap.objs.size + 1 := Heap.size_push _ _
        have e2 : (s.heap.push kwObj).objs.size ≤ h'.objs.size := hsz'
        omega
      have kp : ∀ b o, s.heap.get? b = some o → h'.get? b = some o := fun b o e => hk b o (Nat.ne_of_lt (Heap.lt_size e)) (Heap.get?_push_of_some _ e)
      obtain ⟨od2, ho⟩ : ∃ o, h'.get? s.heap.objs.size = some o := let ⟨o, _, _, e, _⟩ := hd; ⟨o, e⟩
      have new : ObjOk P w (upd H s.heap.objs.size (.frz od2 (.dK (kwE kvs)))) h' s.heap.objs.size (.frz od2 (.dK (kwE kvs))) := by
        refine ⟨ho, by rw [List.length_map]; exact hz, beq_eq_false_iff_ne.mpr (Ne.symm (Nat.ne_of_lt hsz)), kwE l, rk.kv, ?_⟩
        exact hd
      have un : Un (frs outer) [] H (upd H s.heap.objs.size (.frz od2 (.dK (kwE kvs)))) s.heap h' := Un.laid kp (Nat.le_refl _) hfresh
      have z := h _ _ [v, V.ref s.heap.objs.size] [u, Value.ref s.heap.objs.size] (env0_laidH (tk := tk) e0 kp (by omega) (Nat.le_refl _) new) un rfl (fun e s' => StX.cxUp outer s H _ _ E e s' un kp rfl) (.cons r (.cons rfl .nil)) rfl ⟨_, od2, hfresh, rfl, rfl⟩
      exact wpAny_pure z
  · subst ex eH
    exact body_of (ms := [true, false]) hn (hb cdv A outer s2 _ E hr') (hsp p o hp)
end
section
variable {X : Cx} {c : Cf} {G : List Ow} {f1 : Rho → Res D} {gs : Rho → Res (List D)} {o : Expr} {kws : List Keyword} {pos apos : Pos} {C : Addr} {m p0 : Str}
variable {k : Nat} {fa : Addr} {ks : List Str} {ms : List Bool} {rm : Bool} {F : List D → Res D} {sp : Sp} {E : L2.St → XK} {ta : TE} {tk : TA}
def tMethKW (C : Addr) (m : Str) (ks : List Str) (sp : Sp) (E : L2.St → XK) (ta : TE) (tk : TA) : TE := fun σ H Q => ta σ H fun x H1 => ∃ a dx fs, x = .ref a ∧ H1 a = some (.ins C dx fs) ∧ fs.lookup m = none ∧
  tk σ H1 fun zs H2 => zs.length = ks.length ∧ ∀ p o, H2 p = none → sp [.ref a, .ref p] (upd H2 p (.frz o (.dK (kwE (ks.zip zs))))) Q (E σ)
theorem zip_keys {α β : Type} : ∀ {ks : List α} {zs : List β}, zs.length = ks.length → (ks.zip zs).map (·.1) = ks
  | [], [], _ => rfl
  | [], _ :: _, h => by cases h
  | _ :: _, [], h => by cases h
  | k :: ks, z :: zs, h => congrArg (k :: ·) (zip_keys (Nat.succ.inj h))
theorem zip_vals {α β : Type} : ∀ {ks : List α} {zs : List β}, zs.length = ks.length → (ks.zip zs).map (·.2) = zs
  | [], [], _ => rfl
  | [], _ :: _, h => by cases h
  | _ :: _, [], h => by cases h
  | k :: ks, z :: zs, h => congrArg (z :: ·) (zip_vals (Nat.succ.inj h))
theorem pe_methKW {pl : Sem Bool} (he : PE X o ta) (cl : Cls X.K C) (hm : Meth X.K C m fa) (F1 : FnKW X.prog X.w X.K X.mg X.base k fa p0 sp) (hr : Room k X.A) (hx : ∀ σ, PassesAt (L2.CX X.prog X.w) X σ (E σ)) (hkw : PK X kws tk) (nd : ks.Nodup) (np : p0 ∉ ks) (hz : ks.length ≤ sizeLine)
    (ht : eval (.Call (.Attribute o m apos) [] kws pos) X.env = (do
      let ov ← eval o X.env
      standAt apos.atName
      let (f, first) ← holding [ov] (getMethod ov m pl)
      callWith pos f first (backTo pos (starEach [] X.env)) (backToKw pos (keywordEach kws X.env))) := by rfl)
    (hall : (backToKw pos (keywordEach kws X.env)).all (·.1.isSome) = true := by rfl) (hks : (backToKw pos (keywordEach kws X.env)).filterMap (·.1) = ks := by rfl)
    (hpl : ((backTo pos (starEach [] X.env)).any (·.1) || (backToKw pos (keywordEach kws X.env)).any (·.1.isNone)) = false := by rfl) :
    PE X (.Call (.Attribute o m apos) [] kws pos) (tMethKW C m ks sp E ta tk) := by
  refine ⟨fun pins s σ H Q I h => ?_⟩
  refine PySem.W.methodCall_KW (pl := pl) (thn (he.run pins s σ H _ I h) fun u s1 ⟨x, H1, I1, rx, a, dx, fs, ex, ea, l, q⟩ => ?_) ht
  subst ex
  obtain rfl : u = Value.ref a := rx
  refine getmeth_ok I1 ea cl hm l ?_
  refine PySem.W.callWith_KW0 (first := [.ref a]) (h₀ := X.base) I1.ok.mod.kin hm.kp hall (thn (hkw.run pos pins s1 σ H1 _ I1 q) fun ws s2 ⟨zs, H2, I2, rz, hl, q2⟩ => ⟨I2.kIn, ?_⟩) hpl
  rw [hks]
  have e1 : ((ks.zip zs).map (·.1)) = ks := zip_keys hl
  refine wpAny_call (codeAny_mono (F1.run X.A X.stack s2 H2 (.ref a) (.ref a) (ks.zip ws) (ks.zip zs) Q (E σ) hr I2.env0 rfl (KWs.zip rz) (by rw [e1]; exact nd) (by rw [e1]; exact np) (by rw [List.length_zip]; omega) q2) fun r s' hq => ?_)
  cases r with
  | error e => exact hx σ pins H2 s2 e s' I2 hq
  | ok fl =>
    cases fl with
    | ret u => exact I2.after hq
    | next => exact False.elim hq
    | brk => exact False.elim hq
    | cont => exact False.elim hq
theorem rpM_vals {S H : Hp} : ∀ {ks : List Str} {vs : List V} {ds : List D}, RpM c S H (ks.map fun _ => false) vs ds → RpA c.K c.cm S vs ds
  | [], [], [], _ => .nil
  | [], _ :: _, _, h => h.elim
  | [], [], _ :: _, h => h.elim
  | _ :: _, [], _, h => h.elim
  | _ :: _, _ :: _, [], h => h.elim
  | _ :: ks, _ :: _, _ :: _, h => .cons h.1 (rpM_vals (ks := ks) h.2)
def dMethKW (n m : Str) (ks : List Str) (F : List D → Res D) (f1 : Rho → Res D) (gs : Rho → Res (List D)) : Rho → Res D := fun r => (f1 r).bind fun x => (isObj n m x).bind fun _ => (gs r).bind fun es => F [x, .dk (ks.map Sum.inr) es]
theorem kwE_keys {α : Type} (l : List (Str × α)) : (kwE l).map (·.1) = (l.map (·.1)).map (Sum.inr : Str → Key) := by
  induction l with
  | nil => rfl
  | cons x l ih => exact congrArg (_ :: ·) ih
theorem kwE_vals {α : Type} (l : List (Str × α)) : (kwE l).map (·.2) = l.map (·.2) := by
  induction l with
  | nil => rfl
  | cons x l ih => exact congrArg (_ :: ·) ih
/-- o.m(k = v, ..), m(self, **d) -/
theorem de_methKW {n : Str} {pl : Sem Bool} (hcn : c.cm n = some C) (cl : Cls X.K C) (hm : Meth X.K C m fa) (F1 : FnKW X.prog X.w X.K X.mg X.base k fa p0 (spD c.K c.cm [true, false] rm F)) (tk : Takes X c.W) (hr : Room k X.A)
    (he : PE X o (tR c G f1)) (hkw : PK X kws (tM c G (ks.map fun _ => false) gs)) (nd : ks.Nodup) (np : p0 ∉ ks) (hz : ks.length ≤ sizeLine)
    (ht : eval (.Call (.Attribute o m apos) [] kws pos) X.env = (do
      let ov ← eval o X.env
      standAt apos.atName
      let (f, first) ← holding [ov] (getMethod ov m pl)
      callWith pos f first (backTo pos (starEach [] X.env)) (backToKw pos (keywordEach kws X.env))) := by rfl)
    (hall : (backToKw pos (keywordEach kws X.env)).all (·.1.isSome) = true := by rfl) (hks : (backToKw pos (keywordEach kws X.env)).filterMap (·.1) = ks := by rfl)
    (hpl : ((backTo pos (starEach [] X.env)).any (·.1) || (backToKw pos (keywordEach kws X.env)).any (·.1.isNone)) = false := by rfl) :
    PE X (.Call (.Attribute o m apos) [] kws pos) (rd c G (dMethKW n m ks F f1 gs) (mR c rm)) :=
  pe_imp (pe_methKW (pl := pl) (E := fun σ cls d H => c.W cls d σ H) he cl hm F1 hr (fun σ => passAt tk σ) hkw nd np hz ht hall hks hpl) fun σ H Q ⟨S0, H0, S, r, ok, q⟩ => rd_seq ok q fun x v S1 H1 w1 o1 m1 p1 => by
    obtain ⟨a, C', dx, fs', rfl, z1, z2, z3, p2⟩ := of_isObj o1.ex m1 p1
    rw [hcn] at z1; cases z1
    refine ⟨a, dx, fs', rfl, z2, z3, rd_seq o1 p2 fun es zs S2 H2 w2 o2 m2 p3 => ?_⟩
    have hl : zs.length = ks.length := by rw [RpM.length m2, List.length_map]
    refine ⟨hl, fun p o hp => ?_⟩
    have fw : Fwd S2 H2 (upd S2 p (.frz o (.dK (kwE (ks.zip zs))))) (upd H2 p (.frz o (.dK (kwE (ks.zip zs))))) := Fwd.both o2.ex hp
    refine call_rd (ms := [true, false]) (ds := [x, .dk (ks.map Sum.inr) es]) (fun _ _ _ h => h) fw.sub ⟨RpB.mono m1 (w2.s.trans fw.s) (w2.h.trans fw.h), Rp.dk upd_same ?_ ?_, trivial⟩ ((p3.mono fw).imp fun d S' H' _ hk b hb => hk b (Anti.anti ((w1.h.trans w2.h).trans fw.h) hb))
    · rw [kwE_keys, zip_keys hl]
    · rw [kwE_vals, zip_vals hl]
      exact (rpM_vals m2).mono fw.s
end
end Dx
end S_DxBP
section S_DxBQ
set_option Elab.async false
set_option linter.all false
set_option maxRecDepth 100000
set_option maxHeartbeats 2000000
namespace RZ
open PySem
section
variable {prog : Program} {w : World} {A : Around} {E : Value → Shared → Prop} {s : Shared}
theorem zipT2_next_item_held {z TI TO i1 i2 l1 l2 T : Addr} {f : Bool} {oT : Obj} {k : Nat} {xs1 xs2 : Array Value} {x1 x2 : Value} {Q : Value → Shared → Prop} (D : ZapT2 z TI TO i1 i2 l1 l2)
    (hz : IsZipHeld s.heap z TI TO T f) (hT : s.heap.get? T = some oT) (hTI : IsSeq s.heap TI #[.ref i1, .ref i2])
    (h1 : s.heap.IsTupleIter i1 l1 k) (h2 : s.heap.IsTupleIter i2 l2 k)
    (q1 : s.heap.IsTuple l1 xs1) (q2 : s.heap.IsTuple l2 xs2)
    (e1 : xs1[k]? = some x1) (e2 : xs2[k]? = some x2)
    (hQ : ∀ h', IsZipHeld h' z TI TO T true → h'.IsTupleIter i1 l1 (k + 1) → h'.IsTupleIter i2 l2 (k + 1) → IsSeq h' s.heap.objs.size #[x1, x2] → h'.objs.size = s.heap.objs.size + 1 →
      (∀ c o, c ≠ z → c ≠ i1 → c ≠ i2 → s.heap.get? c = some o → h'.get? c = some o) → Q (.ref s.heap.objs.size) { s with heap := h' }) :
    wpAny (model prog w) A (Builtin.«zip.__next__» ⟨[.ref z], []⟩) (fun fin s' => ∃ v, fin = .done (.ret v) ∧ Q v s') E s := by
  show wpAny _ _ (field (.ref z) 2 >>= _) _ _ _
  refine wpAny_bind (wpAny_field hz rfl (x := .bool false) rfl ?_)
  show wpAny _ _ (field (.ref z) 3 >>= _) _ _ _
  refine wpAny_bind (wpAny_field hz rfl (x := .ref TI) rfl ?_)
  refine wpAny_bind (wpAny_seqItems hTI rfl ?_)
  show wpAny _ _ (Builtin.SmallTypes.ownedTupleIsFree (.ref z) >>= _) _ _ _
  refine wpAny_bind (wpAny_tupleHeld_zip hz hT fun g0 hz0 hs0 => ?_)
  simp only [Bool.false_eq_true, if_false]
  refine wpAny_bind ?_
  rw [← Array.forIn_toList]
  simp only [List.forIn_cons, List.forIn_nil]
  refine wpAny_bind (wpAny_bind (wpAny_holding ?_))
  show wpAny _ _ (Builtin.SmallTypes.nextOf (.ref i1) >>= _) _ _ _
  refine wpAny_bind (nextOf_tuple_item (h1.extBut hs0.extBut D.n_i1_z) (q1.extBut hs0.extBut D.n_l1_z) e1 fun n1 hn1 hsn1 => wpAny_pure ?_)
  refine wpAny_pure ?_
  refine wpAny_bind (wpAny_bind (wpAny_holding ?_))
  show wpAny _ _ (Builtin.SmallTypes.nextOf (.ref i2) >>= _) _ _ _
  refine wpAny_bind (nextOf_tuple_item ((h2.extBut hs0.extBut D.n_i2_z).extBut hsn1.extBut D.n_i2_i1) ((q2.extBut hs0.extBut D.n_l2_z).extBut hsn1.extBut D.n_l2_i1) e2 fun n2 hn2 hsn2 => wpAny_pure ?_)
  refine wpAny_pure (wpAny_pure ?_)
  show wpAny _ _ (newTuple [x1, x2] >>= _) _ _ _
  refine wpAny_bind (wpAny_newTuple ?_)
  have hsz : n2.objs.size = s.heap.objs.size := by rw [hsn2.1, hsn1.1, hs0.1]
  have hz₃ : IsZipHeld n2 z TI TO T true := hsn2.extBut _ _ D.n_z_i2 (hsn1.extBut _ _ D.n_z_i1 hz0)
  have hk : ∀ c o, c ≠ z → c ≠ i1 → c ≠ i2 → s.heap.get? c = some o → n2.get? c = some o := fun c o c1 c2 c3 e => hsn2.extBut _ _ c3 (hsn1.extBut _ _ c2 (hs0.extBut _ _ c1 e))
  have h1₃ : n2.IsTupleIter i1 l1 (k + 1) := hn1.extBut hsn2.extBut D.n_i1_i2
  refine wpAny_pure ⟨_, rfl, ?_⟩
  show Q (.ref n2.objs.size) _
  have hp : IsSeq (n2.push { cls := .type "tuple", data := .seq #[x1, x2] }) n2.objs.size #[x1, x2] := Heap.get?_push_size _ rfl
  have hz4 : (n2.push { cls := .type "tuple", data := .seq #[x1, x2] }).objs.size = n2.objs.size + 1 := Heap.size_push ..
  rw [hsz] at hp hz4 ⊢
  exact hQ _ (Heap.get?_push_of_some _ hz₃) (h1₃.at fun o e => Heap.get?_push_of_some _ e) (hn2.at fun o e => Heap.get?_push_of_some _ e) hp hz4 fun c o c1 c2 c3 e => Heap.get?_push_of_some _ (hk c o c1 c2 c3 e)
theorem zipT2_next_end_held {z TI TO i1 i2 l1 l2 T : Addr} {f : Bool} {oT : Obj} {k : Nat} {xs1 xs2 : Array Value} {Q : Fin → Shared → Prop} (hh : A.handled = none) (D : ZapT2 z TI TO i1 i2 l1 l2)
    (hz : IsZipHeld s.heap z TI TO T f) (hT : s.heap.get? T = some oT) (hTI : IsSeq s.heap TI #[.ref i1, .ref i2])
    (h1 : s.heap.IsTupleIter i1 l1 k) (h2 : s.heap.IsTupleIter i2 l2 k)
    (q1 : s.heap.IsTuple l1 xs1) (q2 : s.heap.IsTuple l2 xs2) (hend : xs1[k]? = none ∨ xs2[k]? = none)
    (hE : ∀ h' e, (∀ c o, c ≠ z → c ≠ i1 → c ≠ i2 → s.heap.get? c = some o → h'.get? c = some o) → (∃ o, h'.get? e = some o ∧ o.cls = .type "StopIteration") → E (.ref e) { s with heap := h' }) :
    wpAny (model prog w) A (Builtin.«zip.__next__» ⟨[.ref z], []⟩) Q E s := by
  show wpAny _ _ (field (.ref z) 2 >>= _) _ _ _
  refine wpAny_bind (wpAny_field hz rfl (x := .bool false) rfl ?_)
  show wpAny _ _ (field (.ref z) 3 >>= _) _ _ _
  refine wpAny_bind (wpAny_field hz rfl (x := .ref TI) rfl ?_)
  refine wpAny_bind (wpAny_seqItems hTI rfl ?_)
  show wpAny _ _ (Builtin.SmallTypes.ownedTupleIsFree (.ref z) >>= _) _ _ _
  refine wpAny_bind (wpAny_tupleHeld_zip hz hT fun g0 hz0 hs0 => ?_)
  simp only [Bool.false_eq_true, if_false]
  refine wpAny_bind ?_
  rw [← Array.forIn_toList]
  simp only [List.forIn_cons, List.forIn_nil]
  refine wpAny_bind (wpAny_bind (wpAny_holding ?_))
  show wpAny _ _ (Builtin.SmallTypes.nextOf (.ref i1) >>= _) _ _ _
  cases hx : xs1[k]? with
  | none =>
    refine wpAny_bind (nextOf_tuple_end hh (h1.extBut hs0.extBut D.n_i1_z) (q1.extBut hs0.extBut D.n_l1_z) hx fun h₂ e hs₂ he => ?_)
    exact hE h₂ e (fun c o c1 c2 _ x => hs₂ _ _ c2 (hs0.extBut _ _ c1 x)) he
  | some x =>
    have hy : xs2[k]? = none := by rcases hend with h | h; rw [hx] at h; cases h; exact h
    refine wpAny_bind (nextOf_tuple_item (h1.extBut hs0.extBut D.n_i1_z) (q1.extBut hs0.extBut D.n_l1_z) hx fun n1 hn1 hsn1 => wpAny_pure ?_)
    refine wpAny_pure ?_
    refine wpAny_bind (wpAny_bind (wpAny_holding ?_))
    show wpAny _ _ (Builtin.SmallTypes.nextOf (.ref i2) >>= _) _ _ _
    refine wpAny_bind (nextOf_tuple_end hh ((h2.extBut hs0.extBut D.n_i2_z).extBut hsn1.extBut D.n_i2_i1) ((q2.extBut hs0.extBut D.n_l2_z).extBut hsn1.extBut D.n_l2_i1) hy fun h₃ e hs₃ he => ?_)
    exact hE h₃ e (fun c o c1 c2 c3 x => hs₃ _ _ c3 (hsn1.extBut _ _ c2 (hs0.extBut _ _ c1 x))) he
theorem pyNext_zipT2_item_held {z TI TO i1 i2 l1 l2 T : Addr} {f : Bool} {oT : Obj} {k : Nat} {xs1 xs2 : Array Value} {x1 x2 : Value} {Q : Option Value → Shared → Prop} (D : ZapT2 z TI TO i1 i2 l1 l2)
    (hz : IsZipHeld s.heap z TI TO T f) (hT : s.heap.get? T = some oT) (hTI : IsSeq s.heap TI #[.ref i1, .ref i2])
    (h1 : s.heap.IsTupleIter i1 l1 k) (h2 : s.heap.IsTupleIter i2 l2 k)
    (q1 : s.heap.IsTuple l1 xs1) (q2 : s.heap.IsTuple l2 xs2)
    (e1 : xs1[k]? = some x1) (e2 : xs2[k]? = some x2)
    (hQ : ∀ h', IsZipHeld h' z TI TO T true → h'.IsTupleIter i1 l1 (k + 1) → h'.IsTupleIter i2 l2 (k + 1) → IsSeq h' s.heap.objs.size #[x1, x2] → h'.objs.size = s.heap.objs.size + 1 →
      (∀ c o, c ≠ z → c ≠ i1 → c ≠ i2 → s.heap.get? c = some o → h'.get? c = some o) → Q (some (.ref s.heap.objs.size)) { s with heap := h' }) : wpAny (model prog w) A (pyNext (.ref z)) Q E s := by
  have hTy : s.TypeIs (.ref z) "zip" := ⟨_, hz, rfl⟩
  unfold pyNext
  exact wpAny_bind (wpAny_attempt (wpAny_callSpecial?_slot (name := Str.ofString "__next__") hTy F.slot_zip_next
    (wpAny_call_entry F.slot_zip_next hTy F.entry_zip_next
      (zipT2_next_item_held D hz hT hTI h1 h2 q1 q2 e1 e2 fun h' a1 a3 a4 a5 a6 a7 => wpAny_pure (hQ h' a1 a3 a4 a5 a6 a7)) (F.args_zip_next_1 _))))
theorem pyNext_zipT2_end_held {z TI TO i1 i2 l1 l2 T : Addr} {f : Bool} {oT : Obj} {k : Nat} {xs1 xs2 : Array Value} {Q : Option Value → Shared → Prop} (hh : A.handled = none) (D : ZapT2 z TI TO i1 i2 l1 l2)
    (hz : IsZipHeld s.heap z TI TO T f) (hT : s.heap.get? T = some oT) (hTI : IsSeq s.heap TI #[.ref i1, .ref i2])
    (h1 : s.heap.IsTupleIter i1 l1 k) (h2 : s.heap.IsTupleIter i2 l2 k)
    (q1 : s.heap.IsTuple l1 xs1) (q2 : s.heap.IsTuple l2 xs2) (hend : xs1[k]? = none ∨ xs2[k]? = none)
    (hQ : ∀ h', (∀ c o, c ≠ z → c ≠ i1 → c ≠ i2 → s.heap.get? c = some o → h'.get? c = some o) → Q none { s with heap := h' }) : wpAny (model prog w) A (pyNext (.ref z)) Q E s := by
  have hTy : s.TypeIs (.ref z) "zip" := ⟨_, hz, rfl⟩
  unfold pyNext
  refine wpAny_bind (wpAny_attempt (wpAny_callSpecial?_slot (name := Str.ofString "__next__") hTy F.slot_zip_next
    (wpAny_call_entry F.slot_zip_next hTy F.entry_zip_next (zipT2_next_end_held hh D hz hT hTI h1 h2 q1 q2 hend fun h' e hk he => ?_) (F.args_zip_next_1 _))))
  obtain ⟨o, ho, hc⟩ := he
  refine wpAny_bind (wpAny_isInstance (T := "StopIteration") (b := true) ⟨o, ho, hc⟩ isSubtype_stop ?_)
  exact wpAny_pure (hQ _ hk)
end
section
variable {prog : Program} {w : World}
theorem pairArg_zipT (z TI TO i1 i2 l1 l2 : Addr) (D : ZapT2 z TI TO i1 i2 l1 l2) (xs ys : Array Value) :
    PairArg prog w "zip" z [z, TI, TO, i1, i2, l1, l2] [z, TO, i1, i2] (min xs.size ys.size) (fun i k v => xs[i]? = some k ∧ ys[i]? = some v)
      (fun h => IsZip h z TI TO .none ∧ IsSeq h TI #[.ref i1, .ref i2] ∧ (∃ a b, IsSeq h TO #[a, b]) ∧ h.IsTupleIter i1 l1 0 ∧ h.IsTupleIter i2 l2 0 ∧ h.IsTuple l1 xs ∧ h.IsTuple l2 ys) where
  type := fun s ok => ⟨_, ok.1, rfl⟩
  notDict := by decide
  keep := fun h h' ok hk => by
    obtain ⟨hz, hTI, ⟨a, b, hTO⟩, h1, h2, hl1, hl2⟩ := ok
    exact ⟨hk _ _ hz, hk _ _ hTI, ⟨a, b, hk _ _ hTO⟩, h1.at fun o e => hk _ o e, h2.at fun o e => hk _ o e, hl1.at fun o e => hk _ o e, hl2.at fun o e => hk _ o e⟩
  there := fun h ok b hb => by
    obtain ⟨hz, hTI, ⟨a, c, hTO⟩, ⟨o1, h1, _⟩, ⟨o2, h2, _⟩, ⟨o3, hl1, _⟩, ⟨o4, hl2, _⟩⟩ := ok
    simp only [List.mem_cons, List.not_mem_nil, or_false] at hb
    rcases hb with rfl | rfl | rfl | rfl | rfl | rfl | rfl
    all_goals first | exact ⟨_, hz⟩ | exact ⟨_, hTI⟩ | exact ⟨_, hTO⟩ | exact ⟨_, h1⟩ | exact ⟨_, h2⟩ | exact ⟨_, hl1⟩ | exact ⟨_, hl2⟩
  sub := fun b hb => by simp at hb ⊢; rcases hb with rfl | rfl | rfl | rfl <;> simp
  noKeys := fun A s Q E hA ok h => getAttrOr_miss_zip ok.1 rfl rfl rfl zip_no_keys (by decide +kernel) hA h
  iter := fun A s d Q E hA ok hd hdf h => by
    obtain ⟨hz, hTI, ⟨a, b, hTO⟩, h1, h2, hl1, hl2⟩ := ok
    simp only [List.mem_cons, List.not_mem_nil, or_false, not_or] at hdf
    obtain ⟨dz, dTI, dTO, di1, di2, dl1, dl2⟩ := hdf
    refine wpAny_pyIter_zip hz (h z [z, TO, i1, i2] (fun i h => IsSeq h TI #[.ref i1, .ref i2] ∧ h.IsTupleIter i1 l1 i ∧ h.IsTupleIter i2 l2 i ∧ h.IsTuple l1 xs ∧ h.IsTuple l2 ys ∧
      ((IsZip h z TI TO .none ∧ ∃ a b, IsSeq h TO #[a, b]) ∨ ∃ T f oT, IsZipHeld h z TI TO T f ∧ h.get? T = some oT ∧ T ≠ z ∧ T ≠ i1 ∧ T ≠ i2 ∧ T ≠ d)) s.heap s.toks ?_
      ⟨hTI, h1, h2, hl1, hl2, .inl ⟨hz, a, b, hTO⟩⟩ (fun _ _ e => e) fun b hb => .inl hb)
    exact {
      off := fun hm => by
        simp only [List.mem_cons, List.not_mem_nil, or_false] at hm
        rcases hm with e | e | e | e
        · exact dz e
        · exact dTO e
        · exact di1 e
        · exact di2 e
      frame := fun i h₁ h₂ st hk => by
        obtain ⟨hTI, h1, h2, hl1, hl2, hz⟩ := st
        refine ⟨hk _ _ (Ne.symm dTI) hTI, h1.at fun o e => hk _ o (Ne.symm di1) e, h2.at fun o e => hk _ o (Ne.symm di2) e, hl1.at fun o e => hk _ o (Ne.symm dl1) e, hl2.at fun o e => hk _ o (Ne.symm dl2) e, ?_⟩
        rcases hz with ⟨hz, a, b, hTO⟩ | ⟨T, f, oT, hz, hT, r1, r2, r3, r4⟩
        · exact .inl ⟨hk _ _ (Ne.symm dz) hz, a, b, hk _ _ (Ne.symm dTO) hTO⟩
        · exact .inr ⟨T, f, oT, hk _ _ (Ne.symm dz) hz, hk _ _ r4 hT, r1, r2, r3, r4⟩
      item := fun i s₁ Q₁ E₁ hi st hds hQ => by
        obtain ⟨hTI, h1, h2, hl1, hl2, hz⟩ := st
        have hix : i < xs.size := Nat.lt_of_lt_of_le hi (Nat.min_le_left ..)
        have hiy : i < ys.size := Nat.lt_of_lt_of_le hi (Nat.min_le_right ..)
        have ex := Array.getElem?_eq_getElem hix
        have ey := Array.getElem?_eq_getElem hiy
        have lt : ∀ {c o}, s₁.heap.get? c = some o → s₁.heap.objs.size ≠ c := fun e => Nat.ne_of_gt (Heap.lt_size e)
        have n1 : s₁.heap.objs.size ≠ i1 := let ⟨_, e, _⟩ := h1; lt e
        have n2 : s₁.heap.objs.size ≠ i2 := let ⟨_, e, _⟩ := h2; lt e
        rcases hz with ⟨hz, a, b, hTO⟩ | ⟨T, f, oT, hz, hT, r1, r2, r3, r4⟩
        · refine pyNext_zipT2_item D hz hTI hTO h1 h2 hl1 hl2 ex ey fun h' a1 a2 a3 a4 a5 a6 hk => ?_
          exact hQ s₁.heap.objs.size _ _ h' s₁.toks ⟨ex, ey⟩ (.inl ⟨_, a5, rfl, _, rfl⟩)
            ⟨hk _ _ D.n_TI_z D.n_TI_TO D.n_TI_i1 D.n_TI_i2 hTI, a3, a4, hl1.at fun o e => hk _ o D.n_l1_z D.n_l1_TO D.n_l1_i1 D.n_l1_i2 e, hl2.at fun o e => hk _ o D.n_l2_z D.n_l2_TO D.n_l2_i1 D.n_l2_i2 e,
              .inr ⟨s₁.heap.objs.size, false, _, a1, a5, lt hz, n1, n2, Nat.ne_of_gt hds⟩⟩
            fun c o hc e => hk c o (fun x => hc (by simp [x])) (fun x => hc (by simp [x])) (fun x => hc (by simp [x])) (fun x => hc (by simp [x])) e
        · refine pyNext_zipT2_item_held D hz hT hTI h1 h2 hl1 hl2 ex ey fun h' a1 a3 a4 a5 a6 hk => ?_
          exact hQ s₁.heap.objs.size _ _ h' s₁.toks ⟨ex, ey⟩ (.inl ⟨_, a5, rfl, _, rfl⟩)
            ⟨hk _ _ D.n_TI_z D.n_TI_i1 D.n_TI_i2 hTI, a3, a4, hl1.at fun o e => hk _ o D.n_l1_z D.n_l1_i1 D.n_l1_i2 e, hl2.at fun o e => hk _ o D.n_l2_z D.n_l2_i1 D.n_l2_i2 e,
              .inr ⟨T, true, oT, a1, hk _ _ r1 r2 r3 hT, r1, r2, r3, r4⟩⟩
            fun c o hc e => hk c o (fun x => hc (by simp [x])) (fun x => hc (by simp [x])) (fun x => hc (by simp [x])) e
      done := fun s₁ Q₁ E₁ st hQ => by
        obtain ⟨hTI, h1, h2, hl1, hl2, hz⟩ := st
        have hend : xs[min xs.size ys.size]? = none ∨ ys[min xs.size ys.size]? = none := by
          rcases Nat.le_total xs.size ys.size with h | h
          · exact .inl (Array.getElem?_eq_none (by rw [Nat.min_eq_left h]; exact Nat.le_refl _))
          · exact .inr (Array.getElem?_eq_none (by rw [Nat.min_eq_right h]; exact Nat.le_refl _))
        rcases hz with ⟨hz, a, b, hTO⟩ | ⟨T, f, oT, hz, hT, r1, r2, r3, r4⟩
        · exact pyNext_zipT2_end hA D hz hTI hTO h1 h2 hl1 hl2 hend fun h' hk => hQ h' s₁.toks fun c o hc e => hk c o (fun x => hc (by simp [x])) (fun x => hc (by simp [x])) (fun x => hc (by simp [x])) (fun x => hc (by simp [x])) e
        · exact pyNext_zipT2_end_held hA D hz hT hTI h1 h2 hl1 hl2 hend fun h' hk => hQ h' s₁.toks fun c o hc e => hk c o (fun x => hc (by simp [x])) (fun x => hc (by simp [x])) (fun x => hc (by simp [x])) e }
end
end RZ
namespace Dx
open PySem PySem.Spec L2 ItX PyProof.Rows RZ
abbrev tDictZ (K : PySem.W.Frag) (ta : TA) : TE := fun σ H Q => ta σ H fun vs H1 => ∃ (a b : Addr) (ks : List Str) (xs : List V), vs = [.ref a, .ref b] ∧ SqT K H1 a (ks.map V.str) ∧ SqT K H1 b xs ∧ ks.Nodup ∧ xs.length = ks.length ∧ ks.length ≤ sizeLine ∧
  ∀ p : Addr, H1 p = none → Q (.ref p) (upd H1 p (.dK (kwE (ks.zip xs))))
theorem strs_at : ∀ {ks : List Str} {us : List Value} {i : Nat} {u : Value}, Vals (ks.map V.str) us → us[i]? = some u → ∃ k t, ks[i]? = some k ∧ u = .str k t
  | [], _, _, _, .nil, h => by simp at h
  | k :: ks, _, 0, _, .cons ⟨t, e⟩ _, h => by
    rw [List.getElem?_cons_zero] at h
    cases h
    exact ⟨k, t, rfl, e⟩
  | k :: ks, _, i + 1, u, .cons _ r, h => by
    rw [List.getElem?_cons_succ] at h ⊢
    exact strs_at r h
section
variable {X : Cx} {a b : Expr} {ta : TA} {p p2 pos pos2 : Pos}
theorem pe_dictZ (hc : X.calm = true) (ha : PA X [a, b] ta) (hg : Gl X "dict") (hm : X.mg "dict" = none) (hv : bootBuiltins "dict" = some (.type "dict")) (hgz : Gl X "zip") (hmz : X.mg "zip" = none)
    (hs2 : starEach [a, b] X.env = (false, eval a X.env) :: starEach [b] X.env := by rfl) (hpl : (backTo pos2 (starEach [b] X.env)).any (·.1) = false := by rfl)
    (hs : starEach [.Call (.Name "zip" p2) [a, b] [] pos2] X.env = (false, eval (.Call (.Name "zip" p2) [a, b] [] pos2) X.env) :: starEach [] X.env := by rfl) :
    PE X (.Call (.Name "dict" p) [.Call (.Name "zip" p2) [a, b] [] pos2] [] pos) (tDictZ X.K ta) := by
  refine ⟨fun pins s σ H Q I hq => ?_⟩
  refine wpAny_Call_Name_kw (ld_blt I hg hm hv ?_)
  refine PyProof.Rows.callWith_type1 ?_ hs rfl
  rw [hs]
  show wpAny _ _ (spliced ((false, eval (.Call (.Name "zip" p2) [a, b] [] pos2) X.env) :: backTo pos (starEach [] X.env))) _ _ s
  refine Calls.spliced_cons ?_
  refine Call_ (ld_blt I hgz hmz PyProof.Rows.boot_zip (PyProof.Rows.callWith_type1 (thn (ha.run pos2 pins s σ H _ I hq) fun us s1 ⟨vs, H1, I1, r1, q1⟩ => ?_) hs2 hpl))
  obtain ⟨q, q', ks, xs, ex, g1, g2, nd, hl, hz, kk⟩ := q1
  subst ex
  cases r1 with
  | cons ra r1 =>
  cases r1 with
  | cons rb r1 =>
  cases r1
  cases ra
  cases rb
  obtain ⟨t1, r1, p1, _⟩ := I1.tuple g1
  obtain ⟨t2, r2, p2, _⟩ := I1.tuple g2
  obtain ⟨o1, ho1, _⟩ := id p1
  obtain ⟨o2, ho2, _⟩ := id p2
  have l1 := r1.length
  have l2 := r2.length
  rw [List.length_map] at l1
  refine call_zipT2 (show s1.heap.IsTuple q t1.toArray from p1) (show s1.heap.IsTuple q' t2.toArray from p2) fun h' hz' hTI hTO h1 h2 hsz hk => ?_
  refine Calls.spliced_nil ?_
  have I2 : Inv X pins σ H1 { s1 with heap := h' } := I1.kept (t' := s1.toks) hk
  have D := zapT2_mk s1.heap.objs.size q q' (Heap.lt_size ho1) (Heap.lt_size ho2)
  have kv : KWs (ks.zip xs) (ks.zip t2) := KWs.zip r2
  have ev : ((kwE (ks.zip t2)).map (·.1)).Nodup := by
    rw [kwE_keys, zip_keys (by omega)]
    exact List.Pairwise.map (R := fun a b : Str => a ≠ b) Sum.inr (fun a b (hab : a ≠ b) e => hab (Sum.inr.inj e)) nd
  refine PySem.call_dict_pairs (knd := mixKind X.prog X.w) (kvs := kwE (ks.zip t2)) (pairArg_zipT (s1.heap.objs.size + 4) (s1.heap.objs.size + 2) (s1.heap.objs.size + 3) s1.heap.objs.size (s1.heap.objs.size + 1) q q' D t1.toArray t2.toArray) (I2.ok.hd hc) ⟨hz', hTI, ⟨_, _, hTO⟩, h1, h2, (show s1.heap.IsTuple q t1.toArray from p1).at fun o e => hk _ o e, (show s1.heap.IsTuple q' t2.toArray from p2).at fun o e => hk _ o e⟩ ⟨?_, fun i key v hr => ?_⟩ ?_ fun h2' tk hd hk2 => ?_
  · rw [List.length_map, List.length_zip, List.size_toArray, List.size_toArray]; omega
  · obtain ⟨e1, e2⟩ := hr
    rw [List.getElem?_toArray] at e1 e2
    obtain ⟨k, t, hk1, ek⟩ := strs_at r1 e1
    refine ⟨Sum.inr k, ?_, by rw [ek]; exact mixKind_str _ _ k t⟩
    rw [List.getElem?_map, (List.getElem?_zip_eq_some (z := (k, v))).mpr ⟨hk1, e2⟩]
    rfl
  · rw [List.size_toArray, List.size_toArray]; omega
  · rw [merged_nil_of_nodup _ ev] at hd
    have old : ∀ c o, s1.heap.get? c = some o → h2'.get? c = some o := fun c o e => by
      have hc := Heap.lt_size e
      have no : ∀ n : Nat, c = s1.heap.objs.size + n → False := fun n e => Nat.not_lt.mpr (Nat.le_add_right _ n) (e ▸ hc)
      refine hk2 c o (fun hm => ?_) (hk c o e)
      simp only [List.mem_cons, List.not_mem_nil, or_false] at hm
      rcases hm with e | e | e | e
      · exact no 4 e
      · exact no 3 e
      · exact no 0 e
      · exact no 1 e
    have sz : s1.heap.objs.size ≤ h'.objs.size := by rw [hsz]; omega
    refine ⟨.ref _, _, I1.laid (t' := tk) (o := .dK (kwE (ks.zip xs))) old sz ⟨?_, beq_eq_false_iff_ne.mpr fun e => ?_, kwE (ks.zip t2), kv.kv, hd⟩, rfl, kk _ (I1.hok.fresh sz)⟩
    · rw [List.length_map, List.length_zip]; omega
    · have := I1.big
      rw [← e] at this
      exact absurd (Nat.lt_of_lt_of_le this sz) (Nat.lt_irrefl _)
end
def strOfs : List D → Option (List Str)
  | [] => some []
  | .str s :: ds => (strOfs ds).map (s :: ·)
  | _ :: _ => none
theorem strs_v {K : PySem.W.Frag} {cm : CM} {S : Hp} : ∀ {vs : List V} {ds : List D} {ks : List Str}, RpA K cm S vs ds → strOfs ds = some ks → vs = ks.map V.str
  | _, [], ks, h, q => by cases h; cases q; rfl
  | _, d :: ds, ks, h, q => by
    cases h with | @cons v vs _ _ hd hr =>
    cases d with
    | str x =>
      cases hd
      rw [strOfs] at q
      cases hq : strOfs ds with
      | none => rw [hq] at q; cases q
      | some ms => rw [hq] at q; cases q; rw [strs_v hr hq]; rfl
    | _ => cases q
noncomputable def zipDk : List D → Res D
  | [p, q] => match seqT p, seqT q with
    | some as, some bs => match strOfs as with
      | some ks => guard (ks.Nodup ∧ bs.length = ks.length ∧ ks.length ≤ sizeLine) (.ok (.dk (ks.map Sum.inr) bs))
      | none => .bad
    | _, _ => .bad
  | _ => .bad
noncomputable def dDictZ (fs : Rho → Res (List D)) : Rho → Res D := fun r => (fs r).bind zipDk
section
variable {X : Cx} {c : Cf} {G : List Ow} {a b : Expr} {fs : Rho → Res (List D)} {p p2 pos pos2 : Pos}
theorem de_dictZ (hc : X.calm = true) (ha : PA X [a, b] (tAs c G fs)) (hg : Gl X "dict") (hm : X.mg "dict" = none) (hv : bootBuiltins "dict" = some (.type "dict")) (hgz : Gl X "zip") (hmz : X.mg "zip" = none) (hK : c.K = X.K := by rfl)
    (hs2 : starEach [a, b] X.env = (false, eval a X.env) :: starEach [b] X.env := by rfl) (hpl : (backTo pos2 (starEach [b] X.env)).any (·.1) = false := by rfl)
    (hs : starEach [.Call (.Name "zip" p2) [a, b] [] pos2] X.env = (false, eval (.Call (.Name "zip" p2) [a, b] [] pos2) X.env) :: starEach [] X.env := by rfl) :
    PE X (.Call (.Name "dict" p) [.Call (.Name "zip" p2) [a, b] [] pos2] [] pos) (tO c G (dDictZ fs)) :=
  pe_imp (pe_dictZ hc ha hg hm hv hgz hmz hs2 hpl hs) fun σ H Q ⟨S0, H0, S, r, ok, q⟩ => rd_seq ok q fun ds vs S1 H1 w1 o1 m1 p1 => by
    unfold zipDk at p1
    split at p1
    · rename_i d1 d2
      cases m1 with | cons h1 m1 =>
      cases m1 with | cons h2 m1 =>
      cases m1
      split at p1
      · rename_i as bs z1 z2
        obtain ⟨q1, x1, rfl, s1, r1⟩ := seqT_v h1 z1
        obtain ⟨q2, x2, rfl, s2, r2⟩ := seqT_v h2 z2
        rw [hK] at s1 s2
        split at p1
        · rename_i ks hks
          obtain ⟨⟨nd, hl, hz⟩, p1⟩ := p1.gd
          have e1 := strs_v r1 hks
          subst e1
          have hl2 : x2.length = ks.length := by rw [r2.length]; exact hl
          refine ⟨q1, q2, ks, x2, rfl, o1.ex.t s1, o1.ex.t s2, nd, hl2, hz, fun q hq => (p1.anti w1.h).kept o1.ex hq (.dk ?_ ?_)⟩
          · rw [kwE_keys, zip_keys hl2]
          · rw [kwE_vals, zip_vals hl2]
            exact r2
        · exact p1.elim
      · exact p1.elim
    · exact p1.elim
theorem rs_dictZ {e1 e2 : Rho → Res D} {as bs : List D} {ks : List Str} {r : Rho} {Q : D → Prop} {E : Str → List Str → List D → Prop} (h : Rs (e1 r) (fun d => seqT d = some as ∧ Rs (e2 r) (fun d' => seqT d' = some bs) E) E) (hk : strOfs as = some ks) (nd : ks.Nodup) (hl : bs.length = ks.length) (hz : ks.length ≤ sizeLine)
    (q : Q (.dk (ks.map Sum.inr) bs)) : Rs (dDictZ (dCons e1 (dCons e2 dNil)) r) Q E :=
  Rs.bind (rs_cons (h.impE (fun d e => rs_cons (e.2.impE (fun d' e' => by
    refine rs_nil ?_
    unfold zipDk
    dsimp only
    rw [e.1, e']
    dsimp only
    rw [hk]
    exact rs_guard ⟨nd, hl, hz⟩ q) fun _ _ _ z => z)) fun _ _ _ z => z))
end
end Dx
end S_DxBQ
section S_DxBR
set_option Elab.async false
set_option linter.all false
set_option maxRecDepth 100000
set_option maxHeartbeats 2000000
namespace Dx
open PySem PySem.Spec L2 ItX PyProof.Rows
theorem pairs_at {P : Program} {w : World} {K : Type} [DecidableEq K] {knd : PySem.KeyKind P w K} : ∀ {es : List DictEntry} {kvs : List (K × Value)}, Pairs knd es kvs → ∀ {i : Nat} {x : K × Value}, kvs[i]? = some x → ∃ e, es[i]? = some e ∧ knd.is x.1 e.key = true ∧ e.val = x.2 := by
  intro es kvs h
  induction h with
  | nil => intro i x h; simp at h
  | cons h1 h2 _ ih =>
    intro i x h
    cases i with
    | zero => rw [List.getElem?_cons_zero] at h; cases h; exact ⟨_, rfl, h1, h2⟩
    | succ i => rw [List.getElem?_cons_succ] at h ⊢; exact ih h
theorem nodup_inr : ∀ {l : List Str}, (l.map (Sum.inr : Str → Key)).Nodup → l.Nodup
  | [], _ => List.nodup_nil
  | a :: l, h => by
    rw [List.map_cons, List.nodup_cons] at h
    exact List.nodup_cons.mpr ⟨fun hin => h.1 (List.mem_map_of_mem hin), nodup_inr h.2⟩
section
variable {P : Program} {w : World} {A : Around} {E : Value → Shared → Prop} {s : Shared}
/-- a text more, by dictPut -/
theorem dictPut_new {d : Addr} {kvs : List (Key × Value)} {k : Str} {t : Nat} {v : Value} {Q : Unit → Shared → Prop} (hm : s.heap.DictOf (mixKind P w) d kvs) (hn : (Sum.inr k : Key) ∉ kvs.map (·.1)) (hz : kvs.length ≤ sizeLine)
    (hQ : ∀ h', h'.DictOf (mixKind P w) d (kvs ++ [(Sum.inr k, v)]) → Heap.SameBut d s.heap h' → Q () { s with heap := h' }) : wpAny (model P w) A (dictPut d (keyH w (.inr k)) (.str k t) v) Q E s := by
  obtain ⟨o, es, ep, ho, hc, hd, hk, hp, hnd⟩ := hm
  have hl := hp.length
  have hs : es.toList.length = es.size := by simp
  have hnone : (es.findIdx? fun e => (mixKind P w).is (Sum.inr k) e.key) = none := by
    rw [Array.findIdx?_eq_none_iff]
    intro e he
    cases hq : (mixKind P w).is (Sum.inr k) e.key with
    | false => rfl
    | true =>
      obtain ⟨kv, hkv, e2⟩ := mem_pairs hp (Array.mem_toList_iff.mpr he)
      exact absurd (List.mem_map.mpr ⟨kv, hkv, (mixKind P w).inj _ _ _ e2 hq⟩) hn
  unfold dictPut
  refine wpAny_bind (wpAny_dictFind_of (knd := mixKind P w) (k := Sum.inr k) (mixKind_str P w k t) ho hd hk ?_)
  rw [hnone]
  dsimp only
  refine wpAny_updateDictKeys (hz := by omega) ho hd (hQ _ ⟨_, _, ep + 1, Heap.get?_update_self _ ho (Obj.isFreed_of_dict (Obj.data_mapDictKeys hd _)),
    hc.mapDictKeys _, Obj.data_mapDictKeys hd _, ?_, ?_, ?_⟩ (Heap.SameBut.update ..))
  · exact hk.push (k := Sum.inr k) (mixKind_str P w k t) v
  · have := hp.append (k := Sum.inr k) (mixKind_str P w k t) (keyH w (.inr k)) v
    rw [Array.toList_push]
    exact this
  · rw [List.map_append, List.nodup_append]
    refine ⟨hnd, by simp, fun a ha b hb e => hn ?_⟩
    rw [List.map_singleton, List.mem_singleton] at hb
    have hb' : b = Sum.inr k := hb
    rw [← hb', ← e]; exact ha
theorem merge_kw {d a : Addr} {kvs : List (Str × Value)} {Q : Unit → Shared → Prop} (ha : s.heap.DictOf (mixKind P w) a (kwE kvs)) (hd : s.heap.DictOf (mixKind P w) d []) (hne : a ≠ d) (hs : (a == sysModules) = false) (hz : kvs.length ≤ sizeLine)
    (hQ : ∀ h', h'.DictOf (mixKind P w) d (kwE kvs) → Heap.SameBut d s.heap h' → Q () { s with heap := h' }) : wpAny (model P w) A (mergeMapping d (.ref a) true) Q E s := by
  obtain ⟨od, esd, epd, hod, hcd, hdd, _, hpd, _⟩ := id hd
  obtain ⟨oa, es, ep, hoa, hca, hda, hka, hpa, hnda⟩ := id ha
  have hle := hpa.length
  have hls : es.toList.length = es.size := by simp
  rw [List.length_map] at hle
  unfold mergeMapping
  refine wpAny_bind (wpAny_isInstance ha.typeIs isSubtype_dict_dict ?_)
  rw [if_pos rfl]
  refine wpAny_bind (wpAny_specialOf ha.typeIs F.slot_dict_iter.lookup (wpAny_bind (wpAny_pure ?_)))
  have e1 : (some (Value.builtin "dict.__iter__") == some (Value.builtin "dict.__iter__")) = true := beq_self_eq_true _
  rw [e1]
  dsimp only
  rw [if_neg (by rw [hs]; exact Bool.false_ne_true)]
  refine wpAny_bind (wpAny_dictEntries hod hdd ?_)
  have main : wpAny (model P w) A (do
      let __do_lift ← dictEntries a
      have size : Nat := __do_lift.size
      let epoch ← dictEpoch a
      forIn (List.range size) PUnit.unit fun i __s => do
          let __do_lift ← dictEntries a
          match __do_lift[i]? with
            | some e => do
              holding [e.key, e.val]
                  (have __do_jp : Unit → Sem Unit := fun __r => dictPut d e.hash e.key e.val;
                  if true = true then do
                    let __do_lift ← dictFind d e.key e.hash
                    if __do_lift.isSome = true then do
                        rule "dict.merge.duplicate-key"
                        let __do_lift ← newExc (Value.type "KeyError") [e.key]
                        let __r ← raiseNew __do_lift
                        __do_jp __r
                      else __do_jp ()
                  else __do_jp ())
              let __do_lift ← dictEpoch a
              if (__do_lift != epoch) = true then do
                  unsupported "dict.changed-during-merge"
                  pure (ForInStep.yield PUnit.unit)
                else pure (ForInStep.yield PUnit.unit)
            | x => do
              unsupported "dict.changed-during-merge"
              pure (ForInStep.yield PUnit.unit)
      pure ()) Q E s := by
    refine wpAny_bind (wpAny_dictEntries hoa hda ?_)
    dsimp only
    refine wpAny_bind (wpAny_dictEpoch hoa hda ?_)
    refine wpAny_bind ?_
    refine wpAny_forIn_list _ (fun rest _ s' => ∃ (i : Nat) (h' : Heap), s' = { s with heap := h' } ∧ rest = List.range' i (es.size - i) ∧ i ≤ es.size ∧ h'.DictOf (mixKind P w) d (kwE (kvs.take i)) ∧ Heap.SameBut d s.heap h') _ ?_ ?_ _ _
      ⟨0, s.heap, rfl, by rw [List.range_eq_range', Nat.sub_zero], Nat.zero_le _, hd, Heap.SameBut.refl _ _⟩
    · rintro x rest b s' ⟨i, h', rfl, hr, hi, hm, sb⟩
      have hlt : i < es.size := by
        rcases Nat.lt_or_ge i es.size with h | h
        · exact h
        · rw [Nat.sub_eq_zero_of_le h] at hr; cases hr
      obtain ⟨n, hn⟩ : ∃ n, es.size - i = n + 1 := ⟨es.size - i - 1, by omega⟩
      rw [hn, List.range'_succ] at hr
      injection hr with hx hr
      rw [hx]
      have hik : i < kvs.length := by omega
      obtain ⟨⟨k, v⟩, hkv⟩ : ∃ x, kvs[i]? = some x := ⟨kvs[i], List.getElem?_eq_getElem hik⟩
      obtain ⟨e, he, hke, hve⟩ := pairs_at hpa (i := i) (x := (Sum.inr k, v)) (by rw [List.getElem?_map, hkv]; rfl)
      have he' : es[i]? = some e := by rw [← he]; simp
      have hoa' : h'.get? a = some oa := (sb.2 a hne).trans hoa
      obtain ⟨k2, hk2, hh2⟩ := hka e (Array.mem_of_getElem? he')
      have ek : k2 = Sum.inr k := (mixKind P w).inj _ _ _ hk2 hke
      subst ek
      obtain ⟨_, ekey, ehash, eval⟩ : ∃ t, e.key = .str k t ∧ e.hash = keyH w (.inr k) ∧ e.val = v := by
        rcases keyIs_shape (show keyIs (.inr k) e.key = true from hke) with ⟨_, _, h, _⟩ | ⟨x, t, h1, h2⟩
        · cases h
        · cases h1; exact ⟨t, h2, hh2, hve⟩
      refine wpAny_bind (wpAny_dictEntries hoa' hda ?_)
      rw [he']
      dsimp only
      have hnin : (Sum.inr k : Key) ∉ (kwE (kvs.take i)).map (·.1) := fun hin => by
        rw [kwE_keys] at hin hnda
        obtain ⟨k', hk', e'⟩ := List.mem_map.mp hin
        cases e'
        have nd : (kvs.map (·.1)).Nodup := nodup_inr hnda
        rw [List.map_take] at hk'
        obtain ⟨j, hj, ej⟩ := List.mem_iff_getElem.mp hk'
        rw [List.getElem_take] at ej
        have hj2 : j < i := by rw [List.length_take] at hj; omega
        have := (List.getElem?_inj (by rw [List.length_map]; omega) nd).mp ((List.getElem?_eq_getElem (by rw [List.length_map]; omega)).trans ((congrArg some ej).trans (by rw [List.getElem?_map, hkv]; rfl : some k = (kvs.map (·.1))[i]?)))
        omega
      refine wpAny_bind (wpAny_holding ?_)
      rw [if_pos rfl, ekey, ehash, eval]
      obtain ⟨oh, esh, eph, hoh, hch, hdh, hkh, hph, _⟩ := id hm
      refine wpAny_bind (wpAny_dictFind_of (knd := mixKind P w) (k := Sum.inr k) (mixKind_str P w k _) hoh hdh hkh ?_)
      have hnone : (esh.findIdx? fun e => (mixKind P w).is (Sum.inr k) e.key) = none := by
        rw [Array.findIdx?_eq_none_iff]
        intro e he
        cases hq : (mixKind P w).is (Sum.inr k) e.key with
        | false => rfl
        | true =>
          obtain ⟨kv, hkv, e2⟩ := mem_pairs hph (Array.mem_toList_iff.mpr he)
          exact absurd (List.mem_map.mpr ⟨kv, hkv, (mixKind P w).inj _ _ _ e2 hq⟩) hnin
      rw [hnone]
      rw [if_neg (by decide)]
      refine dictPut_new hm hnin (by rw [List.length_map, List.length_take]; omega) fun h2 hm2 sb2 => ?_
      have hne2 : h2.get? a = some oa := (sb2.2 a hne).trans hoa'
      refine wpAny_bind (wpAny_dictEpoch hne2 hda ?_)
      rw [if_neg (by simp)]
      refine wpAny_pure ⟨i + 1, h2, rfl, ?_, hlt, ?_, sb.trans sb2⟩
      · rw [hr]
        have : es.size - (i + 1) = n := by omega
        rw [this]
      · have et : kvs.take (i + 1) = kvs.take i ++ [(k, v)] := by rw [List.take_add_one, hkv]; rfl
        rw [et]
        show h2.DictOf _ d (List.map _ (_ ++ _))
        rw [List.map_append]
        exact hm2
    · rintro b s' ⟨i, h', rfl, hr, hi, hm, sb⟩
      have : i = es.size := by
        rcases Nat.lt_or_ge i es.size with h | h
        · obtain ⟨n, hn⟩ : ∃ n, es.size - i = n + 1 := ⟨es.size - i - 1, by omega⟩
          rw [hn, List.range'_succ] at hr; cases hr
        · omega
      subst this
      rw [List.take_of_length_le (by omega)] at hm
      exact wpAny_pure (hQ h' hm sb)
  have empty : esd.isEmpty = true := by
    have := hpd.length
    rw [List.length_nil] at this
    exact Array.isEmpty_iff.mpr (Array.eq_empty_of_size_eq_zero (by simpa using this))
  rw [if_pos empty]
  refine wpAny_bind (wpAny_dictEntries hoa hda ?_)
  refine wpAny_bind ?_
  rw [← Array.forIn_toList]
  refine wpAny_forIn_list _ (fun rest _ s' => s' = s ∧ ∀ e ∈ rest, ∃ k t, e.key = .str k t) _ ?_ ?_ _ _ ⟨rfl, fun e he => ?_⟩
  · rintro e rest b s' ⟨rfl, hall⟩
    obtain ⟨k, t, ek⟩ := hall e List.mem_cons_self
    rw [ek]
    exact wpAny_pure ⟨rfl, fun x hx => hall x (List.mem_cons_of_mem _ hx)⟩
  · rintro b s' ⟨rfl, _⟩
    exact main
  · obtain ⟨kv, hkv, h1⟩ := mem_pairs hpa he
    obtain ⟨x, hx, ex⟩ := List.mem_map.mp hkv
    subst ex
    rcases keyIs_shape (show keyIs (.inr x.1) e.key = true from h1) with ⟨_, _, h, _⟩ | ⟨y, t, _, h2⟩
    · cases h
    · exact ⟨y, t, h2⟩
theorem keywordsIn_kw {f : Value} {d : Addr} {l : List (Str × Value)} {Q : List (Str × Value) → Shared → Prop} (hd : s.heap.DictOf (mixKind P w) d (kwE l)) (hQ : Q l s) : wpAny (model P w) A (keywordsIn f d) Q E s := by
  obtain ⟨o, es, ep, ho, hc, hda, hk, hp, hnd⟩ := id hd
  have hle := hp.length
  have hls : es.toList.length = es.size := by simp
  rw [List.length_map] at hle
  unfold keywordsIn
  refine wpAny_bind (wpAny_dictEntries ho hda ?_)
  refine wpAny_bind ?_
  rw [← Array.forIn_toList]
  refine wpAny_forIn_list _ (fun rest b s' => s' = s ∧ ∃ i, i ≤ l.length ∧ rest = es.toList.drop i ∧ b = l.take i) _ ?_ ?_ _ _ ⟨rfl, 0, Nat.zero_le _, by rw [List.drop_zero], by rw [List.take_zero]⟩
  · rintro e rest b s' ⟨rfl, i, hi, hr, rfl⟩
    have hlt : i < es.toList.length := by
      rcases Nat.lt_or_ge i es.toList.length with h | h
      · exact h
      · rw [List.drop_eq_nil_of_le h] at hr; cases hr
    rw [List.drop_eq_getElem_cons hlt] at hr
    injection hr with he hr
    have hil : i < l.length := by omega
    obtain ⟨⟨k, v⟩, hkv⟩ : ∃ x, l[i]? = some x := ⟨l[i], List.getElem?_eq_getElem hil⟩
    obtain ⟨e2, he2, hke, hve⟩ := pairs_at hp (i := i) (x := (Sum.inr k, v)) (by rw [List.getElem?_map, hkv]; rfl)
    rw [List.getElem?_eq_getElem hlt, ← he] at he2
    cases he2
    obtain ⟨_, ekey, eval⟩ : ∃ t, e.key = .str k t ∧ e.val = v := by
      rcases keyIs_shape (show keyIs (.inr k) e.key = true from hke) with ⟨_, _, h, _⟩ | ⟨x, t, h1, h2⟩
      · cases h
      · cases h1; exact ⟨t, h2, hve⟩
    rw [ekey, eval]
    dsimp only
    refine wpAny_pure ⟨rfl, i + 1, by omega, hr, ?_⟩
    rw [List.take_add_one, hkv]; rfl
  · rintro b s' ⟨rfl, i, hi, hr, rfl⟩
    have hge : l.length ≤ i := by
      have := congrArg List.length hr
      rw [List.length_nil, List.length_drop] at this
      omega
    rw [List.take_of_length_le hge]
    exact wpAny_pure hQ
theorem evalArgs_dd {f : Value} {x : Sem Value} {Q : Args → Shared → Prop} (h : wpAny (model P w) A x (fun v s1 => ∃ (a : Addr) (l : List (Str × Value)), v = .ref a ∧ s1.heap.DictOf (mixKind P w) s.heap.objs.size [] ∧ s1.heap.DictOf (mixKind P w) a (kwE l) ∧ a ≠ s.heap.objs.size ∧ (a == sysModules) = false ∧ l.length ≤ sizeLine ∧
      ∀ h', (∀ b o, b ≠ s.heap.objs.size → s1.heap.get? b = some o → h'.get? b = some o) → Q ⟨[], l⟩ { s1 with heap := h' }) E { s with heap := s.heap.push kwObj }) : wpAny (model P w) A (evalArgs f true [] [(none, x)]) Q E s := by
  unfold evalArgs
  dsimp only
  refine wpAny_bind (Calls.spliced_nil (wpAny_bind (wpAny_pure ?_)))
  dsimp only
  refine wpAny_holding ?_
  rw [if_neg (show ¬ ([(none, x)].all fun x : Option Str × Sem Value => x.1.isSome) = true from Bool.false_ne_true)]
  refine wpAny_bind ?_
  unfold mergedKeywords
  refine wpAny_bind (wpAny_alloc ?_)
  refine wpAny_bind (wpAny_holding ?_)
  dsimp only
  rw [List.forIn_cons]
  refine wpAny_bind (wpAny_bind ?_)
  refine wpAny_bind ?_
  rw [if_pos (show ([] : List (Str × Sem Value)).isEmpty = true from rfl)]
  refine wpAny_pure (wpAny_bind (wpAny_mono h (fun v s1 h1 => ?_) fun _ _ y => y))
  obtain ⟨a, l, rfl, hd, ha, hne, hs, hz, hQ⟩ := h1
  refine wpAny_bind (wpAny_onRaise (wpAny_holding (wpAny_tryCatch (wpAny_onRaise ?_))))
  refine merge_kw ha hd hne hs hz fun h' hd' sb => ?_
  refine wpAny_pure ?_
  dsimp only
  rw [List.forIn_nil]
  refine wpAny_pure ?_
  rw [if_pos (show ([] : List (Str × Sem Value)).isEmpty = true from rfl)]
  refine wpAny_pure (wpAny_pure ?_)
  refine wpAny_bind (wpAny_pure ?_)
  refine wpAny_bind (wpAny_holding (keywordsIn_kw hd' (wpAny_pure ?_)))
  exact hQ h' fun b o hb e => (sb.2 b hb).trans e
end
section
variable {X : Cx} {K : PySem.W.Frag} {M : Model} {A : Around} {E : Value → Shared → Prop} {s : Shared}
theorem callWith_dd {f : Value} {pos : Pos} {x : Sem Value} {Q : Value → Shared → Prop} (hk : PySem.W.keepIn K f = true)
    (h : wpAny M A (evalArgs f true [] [(none, x)]) (fun z s1 => K.In s1.heap ∧ wpAny M A (call f ([] ++ z.pos) z.kw) Q E s1) E s) : wpAny M A (callWith pos f [] [] [(none, x)]) Q E s := by
  unfold callWith
  refine wpAny_bind (wpAny_holding (wpAny_mono h (fun z s1 h1 => wpAny_bind (wpAny_standAt ?_)) fun _ _ y => y))
  obtain ⟨k, hk', L⟩ := PySem.W.keeps_K hk _ h1.1
  have hst : (([] : List (Bool × Sem Value)).any (·.1) || [((none : Option Str), x)].any (·.1.isNone)) = true := rfl
  simp only [hst]
  refine wpAny_bind (L.here ?_)
  have tail : ∀ {t : Sem Value}, wpAny M A t Q E s1 → wpAny M A (t >>= fun r => holding [r] point >>= fun _ => pure r) Q E s1 :=
    fun ht => wpAny_bind (wpAny_mono ht (fun r s₂ hr => wpAny_bind (wpAny_holding (wpAny_point (wpAny_pure hr)))) fun _ _ y => y)
  have marked (mk : Value) : wpAny M A (callMarked mk f ([] ++ z.pos) z.kw) Q E s1 := by unfold callMarked; exact Calls.wpAny_keep h1.2
  rcases hk' with rfl | rfl | rfl <;> dsimp only <;> first | exact tail (marked _) | exact tail (wpAny_operateT h1.2)
end
theorem kv_kw : ∀ {kvs : List (Str × V)} {vs : List (Key × Value)}, KV (kwE kvs) vs → ∃ l, vs = kwE l ∧ KWs kvs l
  | [], _, .nil => ⟨[], rfl, .nil⟩
  | (k, v) :: kvs, (k2, u) :: vs, .cons h t => by
    obtain ⟨l, e, r⟩ := kv_kw t
    have hk : (Sum.inr k : Key) = k2 := h.1
    exact ⟨(k, u) :: l, by rw [e, ← hk]; rfl, .cons ⟨rfl, h.2⟩ r⟩
theorem zip_self {α β : Type} : ∀ l : List (α × β), l = (l.map (·.1)).zip (l.map (·.2))
  | [] => rfl
  | x :: l => congrArg (x :: ·) (zip_self l)
theorem KWs.vals : ∀ {a : List (Str × V)} {b : List (Str × Value)}, KWs a b → Vals (a.map (·.2)) (b.map (·.2))
  | _, _, .nil => .nil
  | _, _, .cons h t => .cons h.2 (KWs.vals t)
section
variable {X : Cx} {CX : CXT} {k : Nat} {f C : Addr} {fd : FuncData} {ps ks : List Str} {sp : Sp} {E : L2.St → XK} {x : Str} {p pos kp : Pos} {e : Expr} {te : TE} {g : List Value → List Value → List Value} {gV : List V → List V → List V}
def tMakeDD (C : Addr) (ks : List Str) (sp : Sp) (gV : List V → List V → List V) (E : L2.St → XK) (te : TE) : TE := fun σ H Q => te σ H fun v H1 => ∃ (a : Addr) (zs : List V), v = .ref a ∧ Rd H1 a (.dK (kwE (ks.zip zs))) ∧ zs.length = ks.length ∧ ∀ x dx, H1 x = none → H1 dx = none → dx ≠ x →
  sp (gV [.ref x] zs) (upd (upd H1 dx (.own x)) x (.ins C dx [])) (fun v H3 => v = .non ∧ Q (.ref x) H3) (E σ)
theorem pe_makeDD (M : Mk X.K C f) (F : FnOk X.prog X.w X.K X.mg X.base CX k f fd ps sp) (hr : Room (k + 1) X.A) (hg : Gl X x) (hm : X.mg x = some (.ref C)) (hb : KBn X.K fd ps 1 ks g gV) (hx : ∀ σ, PassesAt CX X σ (E σ)) (he : PE X e te) (hdb : (x == ("__debug__" : Str)) = false := by decide) :
    PE X (.Call (.Name x p) [] [⟨none, e, kp⟩] pos) (tMakeDD C ks sp gV E te) := by
  refine ⟨fun pins s σ H Q I h => ?_⟩
  refine wpAny_Call_Name_kw (ld_glob I hg hm ?_ hdb)
  show wpAny _ _ (callWith pos (.ref C) [] [] [(none, do let v ← eval e X.env; standAt pos; pure v)]) _ _ s
  refine callWith_dd (K := X.K) M.kp (evalArgs_dd ?_)
  have hsz : H s.heap.objs.size = none := I.hok.fresh (Nat.le_refl _)
  have I0 : Inv X pins σ H { s with heap := s.heap.push kwObj } := I.kept (t' := s.toks) fun b o q => Heap.get?_push_of_some _ q
  have fp := I.fpOk (H' := H) (Nat.le_refl _) hsz
  have Ip : Inv X ((s.heap.objs.size, kwObj) :: pins) σ H { s with heap := s.heap.push kwObj } := I0.pins_of fun q hq => by
    rcases List.mem_cons.mp hq with rfl | hq
    · exact ⟨Heap.get?_push_size _ rfl, hsz, fp.2.1, fp.2.2.1, fun v z => by cases z⟩
    · exact I0.pin q (List.mem_append_right _ hq)
  refine wpAny_bind (thn (he.run _ _ σ H _ Ip h) fun u s1 ⟨v, H1, I1, rv, a, zs, ev, hrd, hl, q⟩ => ?_)
  subst ev
  obtain rfl : u = Value.ref a := rv
  refine wpAny_bind (wpAny_standAt (wpAny_pure ?_))
  have hpin := I1.pin (s.heap.objs.size, kwObj) (List.mem_append_right _ List.mem_cons_self)
  have I2 : Inv X pins σ H1 s1 := I1.pins_of fun q hq => I1.pin q (List.mem_append_right _ (List.mem_cons_of_mem _ hq))
  have fp1 : FpOk X pins H1 s.heap.objs.size := ⟨hpin.2.1, fp.2.1, fp.2.2.1, fp.2.2.2.1, fp.2.2.2.2.1, fp.2.2.2.2.2⟩
  have okd : ObjOk X.prog X.w H1 s1.heap a (.dK (kwE (ks.zip zs))) := by
    rcases hrd with h | ⟨o, h⟩
    · exact I2.hok a _ h
    · exact (I2.hok a _ h).2
  obtain ⟨hz, hsm, vs, kv, hd⟩ := okd
  obtain ⟨l, evs, kw⟩ := kv_kw kv
  subst evs
  have hne : a ≠ s.heap.objs.size := fun e => by
    have h1 := hpin.2.1
    rcases hrd with h | ⟨o, h⟩ <;> (rw [e] at h; rw [h1] at h; cases h)
  have hzl : l.length ≤ sizeLine := by
    have := kw.length
    rw [List.length_map] at hz
    omega
  refine ⟨a, l, rfl, ?_, hd, hne, hsm, hzl, fun h' hk => ?_⟩
  · exact ⟨kwObj, #[], 0, hpin.1, ⟨rfl, rfl, rfl⟩, rfl, fun e he => by simp at he, .nil, List.nodup_nil⟩
  · have I3 : Inv X pins σ H1 { s1 with heap := h' } := I2.turnedL (t' := s1.toks) (ch := [s.heap.objs.size]) (fun b o hb e => hk b o (fun e' => hb (by rw [e']; exact List.mem_singleton.mpr rfl)) e) fun b hb => by rw [List.mem_singleton.mp hb]; exact fp1
    refine ⟨I3.kIn, ?_⟩
    have el : l = ks.zip (l.map (·.2)) := by
      have h1 : l.map (·.1) = ks := by rw [kw.keys, zip_keys hl]
      rw [← h1]
      exact zip_self l
    have rz : Vals zs (l.map (·.2)) := by
      have h2 := KWs.vals kw
      rwa [zip_vals hl] at h2
    show wpAny _ _ (call (.ref C) [] l) _ _ _
    rw [el]
    exact run_makeKS (n := 0) M F hr hb (hx σ) I3 .nil rz rfl hl q
theorem pe_make0K {kws : List Keyword} {tk : TA} (M : Mk X.K C f) (F : FnOk X.prog X.w X.K X.mg X.base CX k f fd ps sp) (hr : Room (k + 1) X.A) (hg : Gl X x) (hm : X.mg x = some (.ref C)) (hb : KBn X.K fd ps 1 ks g gV) (hx : ∀ σ, PassesAt CX X σ (E σ)) (hkw : PK X kws tk)
    (hall : (backToKw pos (keywordEach kws X.env)).all (·.1.isSome) = true := by rfl) (hks : (backToKw pos (keywordEach kws X.env)).filterMap (·.1) = ks := by rfl) (hdb : (x == ("__debug__" : Str)) = false := by decide)
    (hpl : ((backTo pos (starEach [] X.env)).any (·.1) || (backToKw pos (keywordEach kws X.env)).any (·.1.isNone)) = false := by rfl) :
    PE X (.Call (.Name x p) [] kws pos) (tMakeKS C 0 ks.length sp gV E tNil tk) := by
  refine ⟨fun pins s σ H Q I h => ?_⟩
  refine wpAny_Call_Name_kw (ld_glob I hg hm ?_ hdb)
  refine PySem.W.callWith_KW0 (h₀ := X.base) I.ok.mod.kin M.kp hall (thn (hkw.run pos pins s σ H _ I h) fun ws s2 ⟨zs, H2, I2, rz, _, l2, q2⟩ => ⟨I2.kIn, ?_⟩) hpl
  rw [hks]
  exact run_makeKS (n := 0) M F hr hb (hx σ) I2 .nil rz rfl l2 q2
end
section
variable {X : Cx} {c : Cf} {G : List Ow} {gs : Rho → Res (List D)} {f1 : Rho → Res D} {e : Expr} {kws : List Keyword} {pos p kp : Pos} {C : Addr} {x : Str}
variable {k : Nat} {fa : Addr} {fd : FuncData} {ps ks : List Str} {ms ms2 ms3 : List Bool} {F : List D → Res D} {dvs : List V} {mv : List Value} {dd : List D}
/-- C(e, .., k = v, ..), the parameters told by t -/
def dMakeG (F : List D → Res D) (t : List (Nat × Nat)) (fs gs : Rho → Res (List D)) (dd : List D) : Rho → Res D := fun r => (fs r).bind fun ds => (gs r).bind fun es => F (pickL t ds es dd)
theorem de_makeG0 (t : List (Nat × Nat)) (M : Mk X.K C fa) (F1 : FnOk X.prog X.w X.K X.mg X.base (L2.CX X.prog X.w) k fa fd ps (spI c.K c.cm C ms F)) (tk : Takes X c.W) (hr : Room (k + 1) X.A) (hg : Gl X x) (hm : X.mg x = some (.ref C))
    (hb : KBn X.K fd ps 1 ks (fun us ws => us.take 1 ++ pickL t (us.drop 1) ws mv) (fun vs zs => vs.take 1 ++ pickL t (vs.drop 1) zs dvs)) (hv : ∀ S H, RpM c S H ms3 dvs dd) (hkw : PK X kws (tM c G ms2 gs)) (hms : pickL t [] ms2 ms3 = ms := by rfl) (hl2 : ms2.length = ks.length := by rfl)
    (hall : (backToKw pos (keywordEach kws X.env)).all (·.1.isSome) = true := by rfl) (hks : (backToKw pos (keywordEach kws X.env)).filterMap (·.1) = ks := by rfl) (hdb : (x == ("__debug__" : Str)) = false := by decide)
    (hpl : ((backTo pos (starEach [] X.env)).any (·.1) || (backToKw pos (keywordEach kws X.env)).any (·.1.isNone)) = false := by rfl) :
    PE X (.Call (.Name x p) [] kws pos) (tO c G (dMakeG F t dNil gs dd)) :=
  pe_imp (pe_make0K (E := fun σ cls d H => c.W cls d σ H) M F1 hr hg hm hb (fun σ => passAt tk σ) hkw hall hks hdb hpl) fun σ H Q ⟨S0, H0, S, r, ok, q⟩ => rd_seq (f := gs) ok q fun es zs S1 H1 w1 o1 m1 p1 =>
    ⟨rfl, by rw [RpM.length m1, hl2], fun y dx hy hdx hne => make_rd (ms := ms) (vs := pickL t [] zs dvs) (ds := pickL t [] es dd) (fun _ _ _ h => h) o1.ex (by rw [← hms]; exact pick_rpM (m1 := []) (vs := []) (ds := []) trivial m1 (hv _ _) t) hy hdx hne (p1.anti w1.h)⟩
theorem de_makeG {ms1 : List Bool} {fs : Rho → Res (List D)} {es : List Expr} {n : Nat} (t : List (Nat × Nat)) (M : Mk X.K C fa) (F1 : FnOk X.prog X.w X.K X.mg X.base (L2.CX X.prog X.w) k fa fd ps (spI c.K c.cm C ms F)) (tk : Takes X c.W) (hr : Room (k + 1) X.A) (hg : Gl X x) (hm : X.mg x = some (.ref C))
    (hb : KBn X.K fd ps (n + 1) ks (fun us ws => us.take 1 ++ pickL t (us.drop 1) ws mv) (fun vs zs => vs.take 1 ++ pickL t (vs.drop 1) zs dvs)) (hv : ∀ S H, RpM c S H ms3 dvs dd) (ha : PA X (e :: es) (tM c G ms1 fs)) (hkw : PK X kws (tM c G ms2 gs)) (hms : pickL t ms1 ms2 ms3 = ms := by rfl) (hl1 : ms1.length = n := by rfl) (hl2 : ms2.length = ks.length := by rfl)
    (hall : (backToKw pos (keywordEach kws X.env)).all (·.1.isSome) = true := by rfl) (hks : (backToKw pos (keywordEach kws X.env)).filterMap (·.1) = ks := by rfl) (hdb : (x == ("__debug__" : Str)) = false := by decide)
    (he : starEach (e :: es) X.env = (false, eval e X.env) :: starEach es X.env := by rfl) (hpl : ((backTo pos (starEach (e :: es) X.env)).any (·.1) || (backToKw pos (keywordEach kws X.env)).any (·.1.isNone)) = false := by rfl) :
    PE X (.Call (.Name x p) (e :: es) kws pos) (tO c G (dMakeG F t fs gs dd)) :=
  pe_imp (pe_makeKS (E := fun σ cls d H => c.W cls d σ H) M F1 hr hg hm hb (fun σ => passAt tk σ) ha hkw hall hks hdb he hpl) fun σ H Q ⟨S0, H0, S, r, ok, q⟩ => rd_seq ok q fun ds vs S1 H1 w1 o1 m1 p1 => rd_seq o1 p1 fun es zs S2 H2 w2 o2 m2 p2 =>
    ⟨by rw [RpM.length m1, hl1], by rw [RpM.length m2, hl2], fun y dx hy hdx hne => make_rd (ms := ms) (vs := pickL t vs zs dvs) (ds := pickL t ds es dd) (fun _ _ _ h => h) o2.ex (by rw [← hms]; exact pick_rpM (RpM.mono w2.s w2.h m1) m2 (hv _ _) t) hy hdx hne (p2.anti (w1.h.trans w2.h))⟩
/-- C(**d) -/
def dMakeDD (F : List D → Res D) (ks : List Str) (f : Rho → Res D) : Rho → Res D := fun r => (f r).bind fun d => match d with
  | .dk kk vs => if kk = ks.map Sum.inr then F vs else .bad
  | _ => .bad
theorem kw_split : ∀ {ks : List Str} {kvs : List (Key × V)}, ks.map Sum.inr = kvs.map (·.1) → kvs = kwE (ks.zip (kvs.map (·.2)))
  | [], [], _ => rfl
  | [], _ :: _, h => by cases h
  | _ :: _, [], h => by cases h
  | k :: ks, (k2, v) :: kvs, h => by
    rw [List.map_cons, List.map_cons] at h
    injection h with h1 h2
    have h1' : k2 = Sum.inr k := h1.symm
    rw [h1']
    exact congrArg ((Sum.inr k, v) :: ·) (kw_split h2)
theorem rpA_rpM {S H : Hp} : ∀ {ks : List Str} {vs : List V} {ds : List D}, vs.length = ks.length → RpA c.K c.cm S vs ds → RpM c S H (ks.map fun _ => false) vs ds
  | [], _, _, _, .nil => trivial
  | [], _, _, h, .cons _ _ => by cases h
  | _ :: _, _, _, h, .nil => by cases h
  | _ :: ks, _, _, h, .cons a r => ⟨a, rpA_rpM (ks := ks) (Nat.succ.inj h) r⟩
theorem de_makeDD (M : Mk X.K C fa) (F1 : FnOk X.prog X.w X.K X.mg X.base (L2.CX X.prog X.w) k fa fd ps (spI c.K c.cm C (ks.map fun _ => false) F)) (tk : Takes X c.W) (hr : Room (k + 1) X.A) (hg : Gl X x) (hm : X.mg x = some (.ref C))
    (hb : KBn X.K fd ps 1 ks (fun us ws => us ++ ws) (fun vs zs => vs ++ zs)) (he : PE X e (tR c G f1)) (hdb : (x == ("__debug__" : Str)) = false := by decide) :
    PE X (.Call (.Name x p) [] [⟨none, e, kp⟩] pos) (tO c G (dMakeDD F ks f1)) :=
  pe_imp (pe_makeDD (E := fun σ cls d H => c.W cls d σ H) M F1 hr hg hm hb (fun σ => passAt tk σ) he hdb) fun σ H Q ⟨S0, H0, S, r, ok, q⟩ => rd_seq ok q fun d v S1 H1 w1 o1 m1 p1 => by
    cases d with
    | dk kk ds =>
      dsimp only at p1
      split at p1
      · rename_i hkk
        have main : ∀ (a : Addr) (kvs : List (Key × V)), v = .ref a → Rd H1 a (.dK kvs) → kk = kvs.map (·.1) → RpA c.K c.cm S1 (kvs.map (·.2)) ds → _ := fun a kvs ev hrd hk rr => by
          have e1 := kw_split (ks := ks) (kvs := kvs) (hkk.symm.trans hk)
          have hl : (kvs.map (·.2)).length = ks.length := by
            have := congrArg List.length (hkk.symm.trans hk)
            rw [List.length_map, List.length_map] at this
            rw [List.length_map]; omega
          exact (⟨a, kvs.map (·.2), ev, by rw [← e1]; exact hrd, hl, fun y dx hy hdx hne => make_rd (ms := ks.map fun _ => false) (vs := kvs.map (·.2)) (fun _ _ _ h => h) o1.ex (rpA_rpM hl rr) hy hdx hne (p1.anti w1.h)⟩ :
            ∃ (a : Addr) (zs : List V), v = .ref a ∧ Rd H1 a (.dK (kwE (ks.zip zs))) ∧ zs.length = ks.length ∧ ∀ x dx, H1 x = none → H1 dx = none → dx ≠ x → spI c.K c.cm C (ks.map fun _ => false) F ([.ref x] ++ zs) (upd (upd H1 dx (.own x)) x (.ins C dx [])) (fun v H3 => v = .non ∧ Q (.ref x) H3) (fun cls d H => c.W cls d σ H))
        rcases m1 with m1 | ⟨a, ho, ev, h1, h2⟩
        · cases m1 with | @dk a w kvs _ _ hh hk rr => exact main a kvs rfl (.inr ⟨w, o1.ex _ _ hh⟩) hk rr
        · cases h2 with | @dk kvs _ _ hk rr => exact main a kvs ev (.inl h1) hk rr
      · exact p1.elim
    | _ => exact p1.elim
end
section
variable {Q : D → Prop} {E : Str → List Str → List D → Prop} {r : Rho} {F : List D → Res D}
theorem rs_mkG {t : List (Nat × Nat)} {fs gs : Rho → Res (List D)} {dd : List D} (h : Rs (fs r) (fun ds => Rs (gs r) (fun es => Rs (F (pickL t ds es dd)) Q E) E) E) : Rs (dMakeG F t fs gs dd r) Q E := Rs.bind (h.impE (fun ds q => Rs.bind q) fun _ _ _ z => z)
theorem rs_mkDD {ks : List Str} {f : Rho → Res D} (h : Rs (f r) (fun d => ∃ vs, d = .dk (ks.map Sum.inr) vs ∧ Rs (F vs) Q E) E) : Rs (dMakeDD F ks f r) Q E :=
  Rs.bind (h.impE (fun d q => by
    obtain ⟨vs, rfl, q⟩ := q
    dsimp only
    rw [if_pos rfl]
    exact q) fun _ _ _ z => z)
theorem rs_methKW {n m : Str} {ks : List Str} {f1 : Rho → Res D} {gs : Rho → Res (List D)} {ns : List Str} {vs : List D} (h : Rs (f1 r) (fun d => d = .obj n ns vs ∧ m ∉ ns ∧ Rs (gs r) (fun es => Rs (F [d, .dk (ks.map Sum.inr) es]) Q E) E) E) : Rs (dMethKW n m ks F f1 gs r) Q E :=
  Rs.bind (h.impE (fun d q => by
    obtain ⟨rfl, hm, q⟩ := q
    unfold isObj
    dsimp only
    rw [if_pos ⟨rfl, hm⟩]
    show Rs ((gs r).bind fun es => F [.obj n ns vs, .dk (ks.map Sum.inr) es]) Q E
    exact Rs.bind q) fun _ _ _ z => z)
end
end Dx
end S_DxBR
section S_DxBS
set_option Elab.async false
set_option linter.all false
set_option maxRecDepth 100000
set_option maxHeartbeats 2000000
namespace Dx
open PySem L2
open PyProof.Rows hiding St
def par4F (i j k l : Nat) (f1 f2 f3 f4 : Rho → Res D) : Rho → SR := fun r => liftS r (f1 r) fun d1 => liftS r (f2 r) fun d2 => liftS r (f3 r) fun d3 => liftS r (f4 r) fun d4 => .nx ((((r.set k (some d3)).set l (some d4)).set i (some d1)).set j (some d2))
section
variable {X : Cx} {c : Cf} {L G : List Ow} {f1 f2 f3 f4 : Rho → Res D} {a b a2 b2 : Expr} {pos : Pos}
theorem ds_par4 (i j k l : Nat) {x y z w : Str} {px py pz pw pt pt2 : Pos} {kt k2 : Nat} (hg : Gok c G) (hc : X.calm = true) (hN : X.N.Nodup) (hi : X.N[i]? = some x) (hj : X.N[j]? = some y) (hk : X.N[k]? = some z) (hl : X.N[l]? = some w)
    (hik : i ≠ k) (hil : i ≠ l) (hjk : j ≠ k) (hjl : j ≠ l) (hGk : k < G.length) (hGl : l < G.length) (hx : Loc X.env.scope x) (hy : Loc X.env.scope y) (hz : Loc X.env.scope z) (hw : Loc X.env.scope w)
    (ha : PE X a (tV c G f1)) (hb : PE X b (tV c G f2)) (ha2 : PE X a2 (tO c G f3)) (hb2 : PE X b2 (tO c G f4))
    (fx : X.fn x = true ∨ X.env.scope.names.lookup x = some .local := by first | exact .inl rfl | exact .inr rfl) (fy : X.fn y = true ∨ X.env.scope.names.lookup y = some .local := by first | exact .inl rfl | exact .inr rfl) (fz : X.fn z = true ∨ X.env.scope.names.lookup z = some .local := by first | exact .inl rfl | exact .inr rfl) (fw : X.fn w = true ∨ X.env.scope.names.lookup w = some .local := by first | exact .inl rfl | exact .inr rfl)
    (hs1 : starEach [a, b, a2, b2] X.env = (false, eval a X.env) :: starEach [b, a2, b2] X.env := by rfl) (hs2 : starEach [b, a2, b2] X.env = (false, eval b X.env) :: starEach [a2, b2] X.env := by rfl) (hs3 : starEach [a2, b2] X.env = (false, eval a2 X.env) :: starEach [b2] X.env := by rfl) (hs4 : starEach [b2] X.env = (false, eval b2 X.env) :: starEach [] X.env := by rfl)
    (hn : (assignEach [.Name x px, .Name y py, .Name z pz, .Name w pw] X.env).length = 4 := by rfl) (hst : (assignEach [.Name x px, .Name y py, .Name z pz, .Name w pw] X.env).findIdx? (·.1) = none := by rfl)
    (hs : swapsWithSole [.Tuple [.Name x px, .Name y py, .Name z pz, .Name w pw] kt pt] (.Tuple [a, b, a2, b2] k2 pt2) pos.line X.env = pure false := by rfl) (hw' : swappedStores [.Tuple [.Name x px, .Name y py, .Name z pz, .Name w pw] kt pt] (.Tuple [a, b, a2, b2] k2 pt2) X.env = pure none := by rfl)
    (h1 : (assignEach [.Tuple [.Name x px, .Name y py, .Name z pz, .Name w pw] kt pt] X.env).map (·.2) = [assign (.Tuple [.Name x px, .Name y py, .Name z pz, .Name w pw] kt pt) X.env] := by rfl) :
    PS X (.Assign [.Tuple [.Name x px, .Name y py, .Name z pz, .Name w pw] kt pt] (.Tuple [a, b, a2, b2] k2 pt2) pos) (sD c L G ((((G.set k .o).set l .o).set i .v).set j .v) (par4F i j k l f1 f2 f3 f4)) :=
  ps_imp (ps_asg (pe_tup (pa_cons ha (pa_cons hb (pa_cons ha2 (pa_cons hb2 pa_nil hs4) hs3) hs2) hs1)) (pg_tup hc (pgs_cons (pg_name hN hi hx fx) (pgs_cons (pg_name hN hj hy fy) (pgs_cons (pg_name hN hk hz fz) (pgs_cons (pg_name hN hl hw fw) pgs_nil)))) hn hst) hs hw' h1) fun E σ H ⟨S0, H0, S, r, ok, p⟩ =>
    st_seq hg ok p fun d1 v1 S1 H1 w1 o1 m1 p1 => st_seq hg o1 p1 fun d2 v2 S2 H2 w2 o2 m2 p2 => st_seq hg o2 p2 fun d3 v3 S3 H3 w3 o3 m3 p3 => st_seq hg o3 p3 fun d4 v4 S4 H4 w4 o4 m4 p4 => by
      obtain ⟨q3, ho3, rfl, n3, ns3, hp3, h3⟩ := m3
      obtain ⟨q4, ho4, rfl, n4, ns4, hp4, h4⟩ := m4
      have e3 := o2.setO w3 k hGk n3 ns3 hp3 h3
      have e4 := e3.setO w4 l (by rw [List.length_set]; exact hGl) n4 ns4 hp4 h4
      refine ⟨by show 4 ≤ sizeLine; decide, fun T hT => ⟨T, _, rfl, .inl (.inl upd_same), rfl, _, _, rfl, _, _, rfl, _, _, rfl, _, _, rfl, rfl, ?_⟩⟩
      have e5 := e4.go (Fwd.heap (o := .tup [v1, v2, .ref q3, .ref q4]) e4.ex hT)
      have e6 := (e5.setV i (m1.mono (w2.s.trans (w3.s.trans w4.s)))).setV j (m2.mono (w3.s.trans w4.s))
      have es : ((((σ.set i (some v1)).set j (some v2)).set k (some (.ref q3))).set l (some (.ref q4))) = ((((σ.set k (some (.ref q3))).set l (some (.ref q4))).set i (some v1)).set j (some v2)) := by
        rw [List.set_comm (i := j) (j := k) _ _ hjk, List.set_comm (i := i) (j := k) _ _ hik, List.set_comm (i := j) (j := l) _ _ hjl, List.set_comm (i := i) (j := l) _ _ hil]
      rw [es]
      exact p4 _ S4 _ e6
end
end Dx
end S_DxBS
section S_DxBT
set_option Elab.async false
set_option linter.all false
set_option maxRecDepth 100000
namespace Dx
open PySem PySem.Spec L2 ItX PyProof.Rows
theorem forIn_slots {f : Str × Value → List (Str × Value) × List (Str × Value) → Sem (ForInStep (List (Str × Value) × List (Str × Value)))} : ∀ (l : List (Str × Value)) (s : List (Str × Value) × List (Str × Value)),
    (∀ pre x post, l = pre ++ x :: post → f x (s.1 ++ pre, s.2) = pure (.yield (s.1 ++ pre ++ [x], s.2))) → forIn l s f = pure (s.1 ++ l, s.2)
  | [], s, _ => by rw [List.forIn_nil, List.append_nil]
  | x :: l, s, h => by
    rw [List.forIn_cons]
    have h0 := h [] x l rfl
    rw [List.append_nil] at h0
    rw [show (s.1, s.2) = s from rfl] at h0
    rw [h0, pure_bind]
    dsimp only
    rw [forIn_slots l (s.1 ++ [x], s.2) fun pre y post e => ?_]
    · dsimp only; rw [List.append_assoc]; rfl
    · have := h (x :: pre) y post (by rw [e]; rfl)
      dsimp only at this ⊢
      rw [List.append_assoc s.1 [x] pre]
      exact this
theorem looks_forIn {M : Model} {h : Heap} {α β : Type} {f : α → β → Sem (ForInStep β)} (g : β → α → β) : ∀ (l : List α) (b : β), (∀ x ∈ l, ∀ b, PySem.W.Looks M h (f x b) (.yield (g b x))) → PySem.W.Looks M h (forIn l b f) (l.foldl g b)
  | [], b, _ => by rw [List.forIn_nil]; exact PySem.W.Looks.of_pure rfl
  | x :: l, b, hf => by
    rw [List.forIn_cons]
    refine (hf x List.mem_cons_self b).andThen ?_
    exact looks_forIn g l (g b x) fun y hy => hf y (List.mem_cons_of_mem _ hy)
theorem lookup_none_iff {l : List (Str × Value)} {n : Str} : (l.lookup n).isSome = false ↔ n ∉ l.map (·.1) := by
  induction l with
  | nil => simp
  | cons x l ih =>
    obtain ⟨k, v⟩ := x
    rw [List.lookup_cons]
    by_cases e : n = k
    · subst e; simp
    · have : (n == k) = false := by simpa using e
      rw [this]
      simp only [List.map_cons, List.mem_cons, e, false_or]
      exact ih
/-- the slots behind the defaults -/
def kwSlots (kos : List Str) (dv : Str → Value) (l : List (Str × Value)) : List (Str × Value) := kos.foldl (fun sl n => if (sl.lookup n).isNone = true then sl ++ [(n, dv n)] else sl) l
theorem bind_g {K : PySem.W.Frag} {M : Model} {h : Heap} {name qual : Str} {as kos : List Arg} {kds : List (Option Expr)} {dfs : List Expr} {body : List Stmt} {scope : Scope} {D : Addr} {doc pm cdv ct : Value} {an : Option Addr} (X : K.In h) (dv : Str → Value) (hdv : ∀ a ∈ kos, PySem.W.nsIn K D a.arg = some (some (dv a.arg)))
    (us : List Value) (l : List (Str × Value)) (hu : us.length ≤ as.length)
    (hin : ∀ x ∈ l, ((as.map (·.arg)).contains x.1 || (kos.map (·.arg)).contains x.1) = true)
    (hnew : ((((as.map (·.arg)).zip us ++ l)).map (·.1)).Nodup)
    (hall : ∀ n ∈ as.map (·.arg), n ∈ ((as.map (·.arg)).zip us ++ l).map (·.1)) :
    PySem.W.Looks M h (bindArgs (PySem.W.fnOf name qual ⟨[], as, none, kos, kds, none, dfs⟩ body scope .none (.ref D) doc pm an cdv ct) ⟨us, l⟩)
      ((as.map (·.arg) ++ kos.map (·.arg)).filterMap fun n => ((kwSlots (kos.map (·.arg)) dv ((as.map (·.arg)).zip us ++ l)).lookup n).map (n, ·)) := by
  unfold bindArgs
  simp only [PySem.W.fnOf]
  rw [forIn_slots l _ fun pre x post e => ?_]
  · rw [pure_bind]
    have hs : seqItems? Value.none = pure none := rfl
    rw [hs, pure_bind]
    have e1 : ((as.map (·.arg)).filter fun n => (((as.map (·.arg)).zip us ++ l).lookup n).isNone) = [] := by
      rw [List.filter_eq_nil_iff]
      intro n hn hc
      have := lookup_none_iff (l := (as.map (·.arg)).zip us ++ l) (n := n)
      cases hq : ((as.map (·.arg)).zip us ++ l).lookup n with
      | none => rw [hq] at this; exact this.mp rfl (hall n hn)
      | some v => rw [hq] at hc; cases hc
    have e2 : ¬ as.length < us.length := by omega
    have e3 : List.take as.length (as.map (·.arg)) = as.map (·.arg) := List.take_of_length_le (by rw [List.length_map]; exact Nat.le_refl _)
    simp [e2, e3, e1]
    refine PySem.W.Looks.andThen (looks_forIn (fun (b : List (Str × Value) × List Str) (a : Arg) => if (b.1.lookup a.arg).isNone = true then (b.1 ++ [(a.arg, dv a.arg)], b.2) else b) kos _ fun a ha b => ?_) ?_
    · by_cases hb : (b.1.lookup a.arg).isNone = true
      · rw [if_pos hb, if_pos hb]
        refine (PySem.W.looks_nsIn X (hdv a ha)).andThen ?_
        exact PySem.W.Looks.of_pure rfl
      · rw [if_neg hb, if_neg hb]
        exact PySem.W.Looks.of_pure rfl
    · have fold : ∀ (ks : List Arg) (s : List (Str × Value)), ks.foldl (fun (b : List (Str × Value) × List Str) (a : Arg) => if (b.1.lookup a.arg).isNone = true then (b.1 ++ [(a.arg, dv a.arg)], b.2) else b) (s, []) = (kwSlots (ks.map (·.arg)) dv s, []) := by
        intro ks
        induction ks with
        | nil => intro s; rfl
        | cons a ks ih =>
          intro s
          rw [List.foldl_cons]
          unfold kwSlots at ih ⊢
          rw [List.map_cons, List.foldl_cons]
          by_cases hb : (s.lookup a.arg).isNone = true
          · rw [if_pos hb, if_pos hb]; exact ih _
          · rw [if_neg hb, if_neg hb]; exact ih _
      rw [fold]
      simp
      refine PySem.W.Looks.of_pure ?_
      rfl
  · have h1 := hin x (by rw [e]; simp)
    have h2 : x.1 ∉ ((as.map (·.arg)).zip us ++ pre).map (·.1) := fun hm => by
      rw [e, ← List.append_assoc, List.map_append, List.nodup_append] at hnew
      exact hnew.2.2 _ hm _ (by simp) rfl
    have h3 := lookup_none_iff.mpr h2
    dsimp only
    rw [if_pos h1]
    rw [if_neg (by
      show ¬ (List.lookup x.1 ((List.map (fun x : Arg => x.arg) [] ++ as.map (·.arg)).zip us ++ pre)).isSome = true
      rw [show (List.map (fun x : Arg => x.arg) [] ++ as.map (·.arg)) = as.map (·.arg) from rfl, h3]
      exact Bool.false_ne_true)]
def dvOf (names : List Str) (mv : List Value) (n : Str) : Value := ((names.zip mv).lookup n).getD .none
theorem lookup_zip : ∀ {names : List Str} {mv : List Value} {n : Str}, mv.length = names.length → n ∈ names → (n, dvOf names mv n) ∈ names.zip mv
  | [], _, _, _, h => by cases h
  | _ :: _, [], _, h, _ => by cases h
  | k :: names, v :: mv, n, hl, h => by
    unfold dvOf
    rw [List.zip_cons_cons, List.lookup_cons]
    by_cases e : n = k
    · subst e; simp
    · have e2 : (n == k) = false := by simpa using e
      rw [e2]
      refine List.mem_cons_of_mem _ ?_
      rcases List.mem_cons.mp h with h | h
      · exact absurd h e
      · exact lookup_zip (Nat.succ.inj hl) h
theorem zip_fst {α β : Type} : ∀ (xs : List α) (us : List β), (xs.zip us).map (·.1) = xs.take us.length
  | [], us => by simp
  | _ :: _, [] => rfl
  | x :: xs, u :: us => congrArg (x :: ·) (zip_fst xs us)
/-- how C(e, .., k = v, ..) binds, the parameters told by t -/
theorem kbn_q {K : PySem.W.Frag} {name qual : Str} {params : Arguments} {as kos : List Arg} {kds : List (Option Expr)} {dfs : List Expr} {body : List Stmt} {scope : Scope} {D : Addr} {doc pm cdv ct : Value} {an : Option Addr} {ps ks : List Str} {mv : List Value} {dvs : List V} (n : Nat) (t : List (Nat × Nat))
    (hp : params = ⟨[], as, none, kos, kds, none, dfs⟩) (hv : Vals dvs mv) (hks : ∀ q ∈ (kos.map (·.arg)).zip mv, PySem.W.nsIn K D q.1 = some (some q.2)) (hl : mv.length = (kos.map (·.arg)).length) (hn : n ≤ as.length)
    (c1 : (ks.all fun k => (as.map (·.arg)).contains k || (kos.map (·.arg)).contains k) = true) (c2 : ((as.map (·.arg)).take n ++ ks).Nodup) (c3 : ∀ m ∈ as.map (·.arg), m ∈ (as.map (·.arg)).take n ++ ks)
    (hres : ∀ us ws : List Value, us.length = n → ws.length = ks.length → ((as.map (·.arg) ++ kos.map (·.arg)).filterMap fun n => ((kwSlots (kos.map (·.arg)) (dvOf (kos.map (·.arg)) mv) ((as.map (·.arg)).zip us ++ ks.zip ws)).lookup n).map (n, ·)) = ps.zip (us.take 1 ++ pickL t (us.drop 1) ws mv)) :
    KBn K (PySem.W.fnOf name qual params body scope .none (.ref D) doc pm an cdv ct) ps n ks (fun us ws => us.take 1 ++ pickL t (us.drop 1) ws mv) (fun vs zs => vs.take 1 ++ pickL t (vs.drop 1) zs dvs) := by
  subst hp
  refine ⟨fun s us ws X l1 l2 => BindsTo.of_looks fun M => ?_, fun h1 h2 => (Vals.take 1 h1).append (pick_vals (Vals.drop 1 h1) h2 hv t)⟩
  rw [← hres us ws l1 l2]
  have ek : ((as.map (·.arg)).zip us ++ ks.zip ws).map (·.1) = (as.map (·.arg)).take n ++ ks := by
    rw [List.map_append, zip_fst, zip_fst, l1, l2, List.take_length]
  refine bind_g X _ (fun a ha => ?_) us (ks.zip ws) (by rw [l1]; exact hn) (fun x hx => ?_) (by rw [ek]; exact c2) (fun m hm => by rw [ek]; exact c3 m hm)
  · exact hks (a.arg, dvOf (kos.map (·.arg)) mv a.arg) (lookup_zip hl (List.mem_map_of_mem ha))
  · exact List.all_eq_true.mp c1 x.1 (List.of_mem_zip hx).1
/-- .. all parameters by keywords -/
theorem kbn_a {K : PySem.W.Frag} {fd : FuncData} {ps ks : List Str} (n : Nat) (h : ∀ us ws : List Value, us.length = n → ws.length = ks.length → bindArgs fd ⟨us, ks.zip ws⟩ = pure (ps.zip (us ++ ws))) : KBn K fd ps n ks (fun us ws => us ++ ws) (fun vs zs => vs ++ zs) :=
  ⟨fun s us ws X l1 l2 => BindsTo.of_looks fun M => PySem.W.Looks.of_pure (h us ws l1 l2), fun h1 h2 => h1.append h2⟩
end Dx
end S_DxBT
section S_P_data
set_option Elab.async false
set_option linter.all false
set_option maxRecDepth 100000
namespace Lk
open PySem L2 Dx
noncomputable section
def isM_BadBook : Str → Option Bool := fun n => if n = "BadBook" then some true else none
def isM_LaidError : Str → Option Bool := fun n => if n = "BadBook" then some true else none
def isM_TooLarge : Str → Option Bool := fun n => if n = "BadBook" then some false else none
def isM_ValueError : Str → Option Bool := fun n => if n = "BadBook" then some true else none
def Fb_is_number : Rho → SR := (retF (dAndV (dUn (isiD "int") (dVar 0)) (dNotV (dUn (isiD "bool") (dVar 0)))))
def F_is_number : List D → Res D := runF 1 false Fb_is_number
def Fb_is_within : Rho → SR := (retF (dAndV (dCall F_is_number (dCons (dVar 0) dNil)) (dChain leD leD (dVar 1) (dVar 0) (dVar 2))))
def F_is_within : List D → Res D := runF 3 false Fb_is_within
def Lp_Book_init_1 : Rho → SR := (ifF (dNot (dT (dCall F_is_within (dCons (dVar 14) (dCons (dVar 15) (dCons (dVar 16) dNil)))))) (raiF "BadBook" ["field"] false (dCons (dVar 13) dNil)) .nx)
def Fb_Book_init : Rho → SR := (seqF (setF 12 (dTup (dCons (dVar 1) (dCons (dVar 2) (dCons (dVar 3) (dCons (dVar 4) (dCons (dVar 5) (dCons (dVar 6) (dCons (dVar 7) (dCons (dVar 8) (dCons (dVar 9) (dCons (dVar 10) dNil)))))))))))) (seqF (forF (dIts zip4T (dCons (dC (.kt [.str "room", .str "height", .str "joint", .str "over", .str "keep", .str "orphan", .str "widow", .str "wait", .str "columns", .str "gutter", .str "full"])) (dCons (dVar 12) (dCons (dC (.kt [.int 1, .int 1, .int 0, .int 0, .int 0, .int 0, .int 0, .int 0, .int 1, .int 0])) (dCons (dC (.kt [.int 2000, .int 2000, .int 2000, .int 2000, .int 2000, .int 2000, .int 2000, .int 2000, .int 4, .int 40])) dNil))))) (tgT 4 (tgCons (tgN 13) (tgCons (tgN 14) (tgCons (tgN 15) (tgCons (tgN 16) tgNil))))) Lp_Book_init_1) (seqF (ifF (dNot (dT (dUn (isiD "bool") (dVar 11)))) (raiF "BadBook" ["field"] false (dCons (dC (.str (Sg [102, 117, 108, 108]))) dNil)) .nx) (seqF (fstF 0 "Book" "room" (dVar 1)) (seqF (fstF 0 "Book" "height" (dVar 2)) (seqF (fstF 0 "Book" "joint" (dVar 3)) (seqF (fstF 0 "Book" "over" (dVar 4)) (seqF (fstF 0 "Book" "keep" (dVar 5)) (seqF (fstF 0 "Book" "orphan" (dVar 6)) (seqF (fstF 0 "Book" "widow" (dVar 7)) (seqF (fstF 0 "Book" "wait" (dVar 8)) (seqF (fstF 0 "Book" "columns" (dVar 9)) (seqF (fstF 0 "Book" "gutter" (dVar 10)) (seqF (fstF 0 "Book" "full" (dVar 11)) (fstF 0 "Book" "field_values" (dOp addD (dVar 12) (dTup (dCons (dVar 11) dNil))))))))))))))))))
def F_Book_init : List D → Res D := runI 17 "Book" Fb_Book_init
def Fb_Book_eq : Rho → SR := (retF (dAndV (dUn (isiO "Book") (dVar 1)) (dOp eqD (dUn (fldD "Book" "field_values") (dVar 0)) (dUn (fldD "Book" "field_values") (dVar 1)))))
def F_Book_eq : List D → Res D := runF 2 false Fb_Book_eq
def Lp_Book_changed_1 : Rho → SR := (ifF (dT (dOp (inKt true) (dVar 2) (dC (.kt [.str "room", .str "height", .str "joint", .str "over", .str "keep", .str "orphan", .str "widow", .str "wait", .str "columns", .str "gutter", .str "full"])))) (raiF "BadBook" ["field"] false (dCons (dVar 2) dNil)) .nx)
def Lp_Book_changed_2 : Rho → SR := (putF 3 (dVar 2) (dOp getZ (dVar 1) (dVar 2)))
def Fb_Book_changed : Rho → SR := (seqF (forF (dIt itemsK (dVar 1)) (tgN 2) Lp_Book_changed_1) (seqF (setF 3 (dDictZ (dCons (dC (.kt [.str "room", .str "height", .str "joint", .str "over", .str "keep", .str "orphan", .str "widow", .str "wait", .str "columns", .str "gutter", .str "full"])) (dCons (dUn (fldD "Book" "field_values") (dVar 0)) dNil)))) (seqF (forF (dIt itemsK (dVar 1)) (tgN 2) Lp_Book_changed_2) (retF (dMakeDD F_Book_init ["room", "height", "joint", "over", "keep", "orphan", "widow", "wait", "columns", "gutter", "full"] (dVar 3))))))
def F_Book_changed : List D → Res D := runF 4 true Fb_Book_changed
def Fb_l_cell : Rho → SR := (seqF (ifF (dT (dOp ltD (dVar 1) (dCall (g1 lenD) (dCons (dVar 0) dNil)))) (retF (dCall (g1 intD) (dCons (dOp ixD (dVar 0) (dVar 1)) dNil))) .nx) (retF (dC (.int 0))))
def F_l_cell : List D → Res D := runF 2 false Fb_l_cell
def Lp_l_row_1 : Rho → SR := (seqF (appF 2 (dOp modD (dCall (g1 intD) (dCons (dVar 3) dNil)) (dVar 4))) (setF 3 (dOp fdivD (dVar 3) (dVar 4))))
def Lp_l_row_2 : Rho → SR := (seqF (setF 6 (dOp modD (dCall (g1 intD) (dCons (dOp addD (dOp addD (dOp mulX (dVar 0) (dC (.int 48271))) (dOp mulX (dVar 5) (dC (.int 69621)))) (dC (.int 11))) dNil)) (dC (.int 2147483647)))) (seqF (setF 6 (dOp modD (dCall (g1 intD) (dCons (dOp addD (dOp addD (dOp mulX (dVar 6) (dOp addD (dC (.int 16807)) (dOp mulX (dC (.int 2)) (dVar 5)))) (dOp mulX (dOp mulX (dVar 5) (dVar 5)) (dC (.int 40692)))) (dC (.int 7))) dNil)) (dC (.int 2147483399)))) (appF 2 (dOp modD (dCall (g1 intD) (dCons (dOp fdivD (dVar 6) (dC (.int 31))) dNil)) (dOp ixD (dVar 1) (dVar 5))))))
def Fb_l_row : Rho → SR := (seqF (setF 2 (dLst dNil)) (seqF (ifF (dT (dOp geD (dVar 0) (dC (.int 1000000000000000000)))) (seqF (setF 3 (dOp subD (dVar 0) (dC (.int 1000000000000000000)))) (seqF (forF (dIt itemsL (dVar 1)) (tgN 4) Lp_l_row_1) (retF (dVar 2)))) .nx) (seqF (forF (dIts rng1 (dCons (dCall (g1 lenD) (dCons (dVar 1) dNil)) dNil)) (tgN 5) Lp_l_row_2) (retF (dVar 2)))))
def F_l_row : List D → Res D := runF 7 false Fb_l_row
def Fb_l_number : Rho → SR := (retF (dAndV (dUn (isiD "int") (dVar 0)) (dNotV (dUn (isiD "bool") (dVar 0)))))
def F_l_number : List D → Res D := runF 1 false Fb_l_number
def Lp_l_same_1 (Fself : List D → Res D) : Rho → SR := (ifF (dNot (dT (dCall Fself (dCons (dOp ixD (dVar 0) (dVar 2)) (dCons (dOp ixD (dVar 1) (dVar 2)) dNil))))) (retF (dC (.bl false))) .nx)
def Fb_l_same (Fself : List D → Res D) : Rho → SR := (seqF (ifF (dT (dOp (isD false) (dVar 1) (dC .non))) (retF (dOp (isD false) (dVar 0) (dC .non))) .nx) (seqF (ifF (dT (dUn (isiD "bool") (dVar 1))) (retF (dAndV (dUn (isiD "bool") (dVar 0)) (dOp eqD (dVar 0) (dVar 1)))) .nx) (seqF (ifF (dT (dUn (isiD "int") (dVar 1))) (retF (dAndV (dUn (isiD "int") (dVar 0)) (dAndV (dNotV (dUn (isiD "bool") (dVar 0))) (dOp eqD (dVar 0) (dVar 1))))) .nx) (seqF (ifF (dT (dUn (isiD "str") (dVar 1))) (retF (dAndV (dUn (isiD "str") (dVar 0)) (dOp eqD (dVar 0) (dVar 1)))) .nx) (seqF (ifF (dAnd (dT (dUn (isiD "tuple") (dVar 1))) (dNot (dT (dUn (isiD "tuple") (dVar 0))))) (retF (dC (.bl false))) .nx) (seqF (ifF (dAnd (dT (dUn (isiD "list") (dVar 1))) (dNot (dT (dUn (isiD "list") (dVar 0))))) (retF (dC (.bl false))) .nx) (seqF (ifF (dOr (dT (dUn (isiD "tuple") (dVar 1))) (dT (dUn (isiD "list") (dVar 1)))) (seqF (ifF (dT (dOp neD (dCall (g1 lenD) (dCons (dVar 0) dNil)) (dCall (g1 lenD) (dCons (dVar 1) dNil)))) (retF (dC (.bl false))) .nx) (seqF (forF (dIts rng1 (dCons (dCall (g1 lenD) (dCons (dVar 1) dNil)) dNil)) (tgN 2) (Lp_l_same_1 Fself)) (retF (dC (.bl true))))) .nx) (retF (dC (.bl false))))))))))
def F_l_same : Nat → List D → Res D
  | 0 => fun _ => .bad
  | n + 1 => runF 3 false (Fb_l_same (F_l_same n))
def Fb_l_names : Rho → SR := (retF (dLst (dCons (dC (.str (Sg [114, 111, 111, 109]))) (dCons (dC (.str (Sg [104, 101, 105, 103, 104, 116]))) (dCons (dC (.str (Sg [106, 111, 105, 110, 116]))) (dCons (dC (.str (Sg [111, 118, 101, 114]))) (dCons (dC (.str (Sg [107, 101, 101, 112]))) (dCons (dC (.str (Sg [111, 114, 112, 104, 97, 110]))) (dCons (dC (.str (Sg [119, 105, 100, 111, 119]))) (dCons (dC (.str (Sg [119, 97, 105, 116]))) (dCons (dC (.str (Sg [99, 111, 108, 117, 109, 110, 115]))) (dCons (dC (.str (Sg [103, 117, 116, 116, 101, 114]))) (dCons (dC (.str (Sg [102, 117, 108, 108]))) dNil)))))))))))))
def F_l_names : List D → Res D := runF 0 false Fb_l_names
def Fb_l_bounds : Rho → SR := (retF (dTup (dCons (dOp ixD (dLst (dCons (dC (.int 1)) (dCons (dC (.int 1)) (dCons (dC (.int 0)) (dCons (dC (.int 0)) (dCons (dC (.int 0)) (dCons (dC (.int 0)) (dCons (dC (.int 0)) (dCons (dC (.int 0)) (dCons (dC (.int 1)) (dCons (dC (.int 0)) dNil))))))))))) (dVar 0)) (dCons (dOp ixD (dLst (dCons (dC (.int 2000)) (dCons (dC (.int 2000)) (dCons (dC (.int 2000)) (dCons (dC (.int 2000)) (dCons (dC (.int 2000)) (dCons (dC (.int 2000)) (dCons (dC (.int 2000)) (dCons (dC (.int 2000)) (dCons (dC (.int 4)) (dCons (dC (.int 40)) dNil))))))))))) (dVar 0)) dNil))))
def F_l_bounds : List D → Res D := runF 1 false Fb_l_bounds
def Lp_l_values_1 : Rho → SR := (seqF (asgF (tgT 2 (tgCons (tgN 3) (tgCons (tgN 4) tgNil))) (dCall F_l_bounds (dCons (dVar 2) dNil))) (seqF (setF 5 (dOp addD (dVar 3) (dOp modD (dCall (g1 intD) (dCons (dOp ixD (dVar 0) (dOp addD (dOp mulX (dC (.int 2)) (dVar 2)) (dC (.int 1)))) dNil)) (dOp addD (dOp subD (dVar 4) (dVar 3)) (dC (.int 1)))))) (seqF (ifF (dT (dOp eqD (dOp ixD (dVar 0) (dOp mulX (dC (.int 2)) (dVar 2))) (dC (.int 0)))) (setF 5 (dVar 3)) .nx) (seqF (ifF (dT (dOp eqD (dOp ixD (dVar 0) (dOp mulX (dC (.int 2)) (dVar 2))) (dC (.int 1)))) (setF 5 (dVar 4)) .nx) (appF 1 (dVar 5))))))
def Fb_l_values : Rho → SR := (seqF (setF 1 (dLst dNil)) (seqF (forF (dIts rng1 (dCons (dC (.int 10)) dNil)) (tgN 2) Lp_l_values_1) (retF (dOp addD (dVar 1) (dLst (dCons (dOp eqD (dOp ixD (dVar 0) (dC (.int 20))) (dC (.int 1))) dNil))))))
def F_l_values : List D → Res D := runF 6 false Fb_l_values
def Fb_l_odd : Rho → SR := (seqF (ifF (dT (dOp eqD (dVar 0) (dC (.int 10)))) (retF (dOp ixD (dLst (dCons (dC (.int 0)) (dCons (dC (.int 1)) (dCons (dC .non) (dCons (dC (.str (Sg [84, 114, 117, 101]))) (dCons (dTup (dCons (dC (.bl true)) dNil)) (dCons (dUn negD (dC (.int 1))) (dCons (dC (.int 2)) (dCons (dC (.str (Sg []))) (dCons (dTup dNil) dNil)))))))))) (dVar 1))) .nx) (seqF (asgF (tgT 2 (tgCons (tgN 2) (tgCons (tgN 3) tgNil))) (dCall F_l_bounds (dCons (dVar 0) dNil))) (retF (dOp ixD (dLst (dCons (dOp subD (dVar 2) (dC (.int 1))) (dCons (dOp addD (dVar 3) (dC (.int 1))) (dCons (dC (.bl true)) (dCons (dC (.bl false)) (dCons (dC .non) (dCons (dC (.str (Sg [49]))) (dCons (dTup (dCons (dC (.int 1)) dNil)) (dCons (dUn negD (dC (.int 2001))) (dCons (dOp powD (dC (.int 10)) (dC (.int 12))) dNil)))))))))) (dVar 1)))))
def F_l_odd : List D → Res D := runF 4 false Fb_l_odd
def Fb_l_fits : Rho → SR := (seqF (ifF (dT (dOp eqD (dVar 0) (dC (.int 10)))) (retF (dUn (isiD "bool") (dVar 1))) .nx) (retF (dAndV (dCall F_l_number (dCons (dVar 1) dNil)) (dChain leD leD (dOp ixD (dCall F_l_bounds (dCons (dVar 0) dNil)) (dC (.int 0))) (dVar 1) (dOp ixD (dCall F_l_bounds (dCons (dVar 0) dNil)) (dC (.int 1)))))))
def F_l_fits : List D → Res D := runF 2 false Fb_l_fits
def Lp_l_due_1 : Rho → SR := (ifF (dNot (dT (dCall F_l_fits (dCons (dVar 1) (dCons (dOp ixD (dVar 0) (dVar 1)) dNil))))) (retF (dTup (dCons (dC (.str (Sg [110, 111]))) (dCons (dOp ixD (dCall F_l_names dNil) (dVar 1)) (dCons (dC (.bl true)) dNil))))) .nx)
def Fb_l_due : Rho → SR := (seqF (forF (dIts rng1 (dCons (dC (.int 11)) dNil)) (tgN 1) Lp_l_due_1) (retF (dCall (g1 listD) (dCons (dVar 0) dNil))))
def F_l_due : List D → Res D := runF 2 false Fb_l_due
def Fb_l_told : Rho → SR := (seqF (setF 1 (dLst (dCons (dUn (fldD "Book" "joint") (dVar 0)) (dCons (dUn (fldD "Book" "over") (dVar 0)) (dCons (dUn (fldD "Book" "keep") (dVar 0)) (dCons (dUn (fldD "Book" "orphan") (dVar 0)) (dCons (dUn (fldD "Book" "widow") (dVar 0)) (dCons (dUn (fldD "Book" "wait") (dVar 0)) dNil)))))))) (retF (dOp addD (dOp addD (dLst (dCons (dUn (fldD "Book" "room") (dVar 0)) (dCons (dUn (fldD "Book" "height") (dVar 0)) dNil))) (dVar 1)) (dLst (dCons (dUn (fldD "Book" "columns") (dVar 0)) (dCons (dUn (fldD "Book" "gutter") (dVar 0)) (dCons (dUn (fldD "Book" "full") (dVar 0)) dNil)))))))
def F_l_told : List D → Res D := runF 2 false Fb_l_told
def Fb_l_book : Rho → SR := (retF (dMakeG F_Book_init [(0, 0), (0, 1), (1, 0), (1, 1), (1, 2), (1, 3), (1, 4), (1, 5), (1, 6), (1, 7), (1, 8)] (dCons (dOp ixD (dVar 0) (dC (.int 0))) (dCons (dOp ixD (dVar 0) (dC (.int 1))) dNil)) (dCons (dOp ixD (dVar 0) (dC (.int 2))) (dCons (dOp ixD (dVar 0) (dC (.int 3))) (dCons (dOp ixD (dVar 0) (dC (.int 4))) (dCons (dOp ixD (dVar 0) (dC (.int 5))) (dCons (dOp ixD (dVar 0) (dC (.int 6))) (dCons (dOp ixD (dVar 0) (dC (.int 7))) (dCons (dOp ixD (dVar 0) (dC (.int 8))) (dCons (dOp ixD (dVar 0) (dC (.int 9))) (dCons (dOp ixD (dVar 0) (dC (.int 10))) dNil))))))))) [.int 0, .int 100, .int 0, .int 0, .int 0, .int 0, .int 1, .int 1, .bl false]))
def F_l_book : List D → Res D := runF 1 true Fb_l_book
def Fb_l_made : Rho → SR := (tryF isM_BadBook 1 (retF (dCall F_l_told (dCons (dCall F_l_book (dCons (dVar 0) dNil)) dNil))) (retF (dTup (dCons (dC (.str (Sg [110, 111]))) (dCons (dXf 1 "field") (dCons (dAndV (dIsX isM_LaidError 1) (dAndV (dIsX isM_ValueError 1) (dNotV (dIsX isM_TooLarge 1)))) dNil))))))
def F_l_made : List D → Res D := runF 2 false Fb_l_made
def Fb_l_one_changed : Rho → SR := (seqF (ifF (dT (dOp eqD (dVar 1) (dC (.int 0)))) (retF (dMethKW "Book" "changed" ["room"] F_Book_changed (dVar 0) (dCons (dVar 2) dNil))) .nx) (seqF (ifF (dT (dOp eqD (dVar 1) (dC (.int 1)))) (retF (dMethKW "Book" "changed" ["height"] F_Book_changed (dVar 0) (dCons (dVar 2) dNil))) .nx) (seqF (ifF (dT (dOp eqD (dVar 1) (dC (.int 2)))) (retF (dMethKW "Book" "changed" ["joint"] F_Book_changed (dVar 0) (dCons (dVar 2) dNil))) .nx) (seqF (ifF (dT (dOp eqD (dVar 1) (dC (.int 3)))) (retF (dMethKW "Book" "changed" ["over"] F_Book_changed (dVar 0) (dCons (dVar 2) dNil))) .nx) (seqF (ifF (dT (dOp eqD (dVar 1) (dC (.int 4)))) (retF (dMethKW "Book" "changed" ["keep"] F_Book_changed (dVar 0) (dCons (dVar 2) dNil))) .nx) (seqF (ifF (dT (dOp eqD (dVar 1) (dC (.int 5)))) (retF (dMethKW "Book" "changed" ["orphan"] F_Book_changed (dVar 0) (dCons (dVar 2) dNil))) .nx) (seqF (ifF (dT (dOp eqD (dVar 1) (dC (.int 6)))) (retF (dMethKW "Book" "changed" ["widow"] F_Book_changed (dVar 0) (dCons (dVar 2) dNil))) .nx) (seqF (ifF (dT (dOp eqD (dVar 1) (dC (.int 7)))) (retF (dMethKW "Book" "changed" ["wait"] F_Book_changed (dVar 0) (dCons (dVar 2) dNil))) .nx) (seqF (ifF (dT (dOp eqD (dVar 1) (dC (.int 8)))) (retF (dMethKW "Book" "changed" ["columns"] F_Book_changed (dVar 0) (dCons (dVar 2) dNil))) .nx) (seqF (ifF (dT (dOp eqD (dVar 1) (dC (.int 9)))) (retF (dMethKW "Book" "changed" ["gutter"] F_Book_changed (dVar 0) (dCons (dVar 2) dNil))) .nx) (retF (dMethKW "Book" "changed" ["full"] F_Book_changed (dVar 0) (dCons (dVar 2) dNil)))))))))))))
def F_l_one_changed : List D → Res D := runF 3 true Fb_l_one_changed
def Fb_l_some_changed : Rho → SR := (seqF (ifF (dT (dOp eqD (dVar 1) (dC (.int 0)))) (retF (dMethKW "Book" "changed" ["gutter", "room", "wait"] F_Book_changed (dVar 0) (dCons (dOp ixD (dVar 2) (dC (.int 9))) (dCons (dOp ixD (dVar 2) (dC (.int 0))) (dCons (dOp ixD (dVar 2) (dC (.int 7))) dNil))))) .nx) (seqF (ifF (dT (dOp eqD (dVar 1) (dC (.int 1)))) (retF (dMethKW "Book" "changed" ["full", "over"] F_Book_changed (dVar 0) (dCons (dOp ixD (dVar 2) (dC (.int 10))) (dCons (dOp ixD (dVar 2) (dC (.int 3))) dNil)))) .nx) (seqF (ifF (dT (dOp eqD (dVar 1) (dC (.int 2)))) (retF (dMethKW "Book" "changed" ["columns", "height", "keep", "joint"] F_Book_changed (dVar 0) (dCons (dOp ixD (dVar 2) (dC (.int 8))) (dCons (dOp ixD (dVar 2) (dC (.int 1))) (dCons (dOp ixD (dVar 2) (dC (.int 4))) (dCons (dOp ixD (dVar 2) (dC (.int 2))) dNil)))))) .nx) (seqF (ifF (dT (dOp eqD (dVar 1) (dC (.int 3)))) (retF (dMethKW "Book" "changed" ["widow", "orphan", "full"] F_Book_changed (dVar 0) (dCons (dOp ixD (dVar 2) (dC (.int 6))) (dCons (dOp ixD (dVar 2) (dC (.int 5))) (dCons (dOp ixD (dVar 2) (dC (.int 10))) dNil))))) .nx) (retF (dMethKW "Book" "changed" [] F_Book_changed (dVar 0) dNil))))))
def F_l_some_changed : List D → Res D := runF 3 true Fb_l_some_changed
def Lp_l_some_due_1 : Rho → SR := (stoF 3 (dVar 4) (dOp ixD (dVar 2) (dVar 4)))
def Fb_l_some_due : Rho → SR := (seqF (setF 3 (dCall (g1 listD) (dCons (dVar 0) dNil))) (seqF (forF (dIt itemsL (dOp ixD (dLst (dCons (dLst (dCons (dC (.int 9)) (dCons (dC (.int 0)) (dCons (dC (.int 7)) dNil)))) (dCons (dLst (dCons (dC (.int 10)) (dCons (dC (.int 3)) dNil))) (dCons (dLst (dCons (dC (.int 8)) (dCons (dC (.int 1)) (dCons (dC (.int 4)) (dCons (dC (.int 2)) dNil))))) (dCons (dLst (dCons (dC (.int 6)) (dCons (dC (.int 5)) (dCons (dC (.int 10)) dNil)))) (dCons (dLst dNil) dNil)))))) (dVar 1))) (tgN 4) Lp_l_some_due_1) (retF (dCall F_l_due (dCons (dVar 3) dNil)))))
def F_l_some_due : List D → Res D := runF 5 false Fb_l_some_due
def Fb_l_changes_are : Rho → SR := (seqF (setF 4 (dCall (g1 listD) (dCons (dVar 1) dNil))) (seqF (stoF 4 (dOp ixD (dVar 2) (dC (.int 0))) (dOp ixD (dVar 3) (dOp ixD (dVar 2) (dC (.int 0))))) (seqF (tryF isM_BadBook 6 (setF 5 (dCall F_l_told (dCons (dCall F_l_one_changed (dCons (dVar 0) (dCons (dOp ixD (dVar 2) (dC (.int 0))) (dCons (dOp ixD (dVar 3) (dOp ixD (dVar 2) (dC (.int 0)))) dNil)))) dNil))) (setF 5 (dTup (dCons (dC (.str (Sg [110, 111]))) (dCons (dXf 6 "field") (dCons (dIsX isM_LaidError 6) dNil)))))) (seqF (ifF (dNot (dT (dCall (F_l_same 8) (dCons (dVar 5) (dCons (dCall F_l_due (dCons (dVar 4) dNil)) dNil))))) (retF (dC (.bl false))) .nx) (seqF (tryF isM_BadBook 6 (setF 5 (dCall F_l_told (dCons (dCall F_l_some_changed (dCons (dVar 0) (dCons (dOp ixD (dVar 2) (dC (.int 1))) (dCons (dVar 3) dNil)))) dNil))) (setF 5 (dTup (dCons (dC (.str (Sg [110, 111]))) (dCons (dXf 6 "field") (dCons (dIsX isM_LaidError 6) dNil)))))) (retF (dAndV (dCall (F_l_same 8) (dCons (dVar 5) (dCons (dCall F_l_some_due (dCons (dVar 1) (dCons (dOp ixD (dVar 2) (dC (.int 1))) (dCons (dVar 3) dNil)))) dNil))) (dCall (F_l_same 8) (dCons (dCall F_l_told (dCons (dVar 0) dNil)) (dCons (dVar 1) dNil))))))))))
def F_l_changes_are : List D → Res D := runF 7 false Fb_l_changes_are
def Fb_l_strange : Rho → SR := (seqF (tryF isM_BadBook 2 (seqF (ifF (dT (dOp eqD (dVar 1) (dC (.int 0)))) (dropF (dMethKW "Book" "changed" ["zoom"] F_Book_changed (dVar 0) (dCons (dC (.int 1)) dNil))) .nx) (seqF (ifF (dT (dOp eqD (dVar 1) (dC (.int 1)))) (dropF (dMethKW "Book" "changed" ["room", "zoom", "spread"] F_Book_changed (dVar 0) (dCons (dC (.int 0)) (dCons (dC (.int 1)) (dCons (dC (.int 2)) dNil))))) .nx) (seqF (ifF (dT (dOp eqD (dVar 1) (dC (.int 2)))) (dropF (dMethKW "Book" "changed" ["spread", "full", "zoom"] F_Book_changed (dVar 0) (dCons (dC (.int 2)) (dCons (dC .non) (dCons (dC (.int 1)) dNil))))) .nx) (seqF (ifF (dT (dOp eqD (dVar 1) (dC (.int 3)))) (dropF (dMethKW "Book" "changed" ["rooms", "room"] F_Book_changed (dVar 0) (dCons (dC (.int 5)) (dCons (dC (.int 5)) dNil)))) .nx) (ifF (dT (dOp eqD (dVar 1) (dC (.int 4)))) (dropF (dMethKW "Book" "changed" ["gutter", "columns", "zoom"] F_Book_changed (dVar 0) (dCons (dC (.int 41)) (dCons (dC (.int 4)) (dCons (dC .non) dNil))))) .nx))))) (retF (dXf 2 "field"))) (retF (dC .non)))
def F_l_strange : List D → Res D := runF 3 false Fb_l_strange
def Lp_law_1 : Rho → SR := (seqF (setF 15 (dOp (cmpV "Book" F_Book_eq) (dOp ixD (dVar 14) (dC (.int 0))) (dOp ixD (dVar 14) (dC (.int 1))))) (ifF (dOr (dNot (dT (dUn (isiD "bool") (dVar 15)))) (dT (dOp neD (dVar 15) (dOp ixD (dVar 14) (dC (.int 2)))))) (retF (dC (.bl false))) .nx))
def Fb_law : Rho → SR := (seqF (setF 1 (dCall F_l_values (dCons (dCall F_l_row (dCons (dCall F_l_cell (dCons (dVar 0) (dCons (dC (.int 0)) dNil))) (dCons (dOp addD (dOp mulX (dLst (dCons (dC (.int 5)) (dCons (dC (.int 2001)) dNil))) (dC (.int 10))) (dLst (dCons (dC (.int 2)) dNil))) dNil))) dNil))) (seqF (setF 2 (dCall F_l_values (dCons (dCall F_l_row (dCons (dCall F_l_cell (dCons (dVar 0) (dCons (dC (.int 1)) dNil))) (dCons (dOp addD (dOp mulX (dLst (dCons (dC (.int 5)) (dCons (dC (.int 2001)) dNil))) (dC (.int 10))) (dLst (dCons (dC (.int 2)) dNil))) dNil))) dNil))) (seqF (setF 3 (dCall F_l_row (dCons (dCall F_l_cell (dCons (dVar 0) (dCons (dC (.int 2)) dNil))) (dCons (dLst (dCons (dC (.int 11)) (dCons (dC (.int 5)) (dCons (dC (.int 4)) (dCons (dC (.int 13)) (dCons (dC (.int 9)) (dCons (dC (.int 13)) (dCons (dC (.int 9)) (dCons (dC (.int 5)) (dCons (dC (.int 11)) dNil)))))))))) dNil)))) (seqF (par4F 4 5 6 7 (dCall (g2 (intsD min2)) (dCons (dOp ixD (dVar 3) (dC (.int 3))) (dCons (dC (.int 10)) dNil))) (dCall (g2 (intsD min2)) (dCons (dOp ixD (dVar 3) (dC (.int 5))) (dCons (dC (.int 10)) dNil))) (dCall (g1 listD) (dCons (dVar 2) dNil)) (dCall (g1 listD) (dCons (dVar 1) dNil))) (seqF (ifF (dT (dOp ltD (dOp ixD (dVar 3) (dC (.int 2))) (dC (.int 3)))) (seqF (stoF 6 (dVar 4) (dCall F_l_odd (dCons (dVar 4) (dCons (dOp ixD (dVar 3) (dC (.int 4))) dNil)))) (stoF 7 (dVar 4) (dCall F_l_odd (dCons (dVar 4) (dCons (dOp ixD (dVar 3) (dC (.int 4))) dNil))))) .nx) (seqF (ifF (dT (dOp eqD (dOp ixD (dVar 3) (dC (.int 2))) (dC (.int 0)))) (seqF (stoF 6 (dVar 5) (dCall F_l_odd (dCons (dVar 5) (dCons (dOp ixD (dVar 3) (dC (.int 6))) dNil)))) (stoF 7 (dVar 5) (dCall F_l_odd (dCons (dVar 5) (dCons (dOp ixD (dVar 3) (dC (.int 6))) dNil))))) .nx) (seqF (ifF (dOr (dNot (dT (dCall (F_l_same 8) (dCons (dCall F_l_made (dCons (dVar 7) dNil)) (dCons (dCall F_l_due (dCons (dVar 7) dNil)) dNil))))) (dNot (dT (dCall (F_l_same 8) (dCons (dCall F_l_made (dCons (dVar 1) dNil)) (dCons (dVar 1) dNil)))))) (retF (dC (.bl false))) .nx) (seqF (parF 8 9 (dCall F_l_book (dCons (dVar 1) dNil)) (dMakeG F_Book_init [(0, 0), (0, 1), (2, 0), (2, 1), (2, 2), (2, 3), (2, 4), (2, 5), (2, 6), (2, 7), (2, 8)] (dCons (dOp ixD (dVar 1) (dC (.int 0))) (dCons (dOp ixD (dVar 1) (dC (.int 1))) dNil)) dNil [.int 0, .int 100, .int 0, .int 0, .int 0, .int 0, .int 1, .int 1, .bl false])) (seqF (ifF (dNot (dT (dCall (F_l_same 8) (dCons (dCall F_l_told (dCons (dVar 9) dNil)) (dCons (dLst (dCons (dOp ixD (dVar 1) (dC (.int 0))) (dCons (dOp ixD (dVar 1) (dC (.int 1))) (dCons (dC (.int 0)) (dCons (dC (.int 100)) (dCons (dC (.int 0)) (dCons (dC (.int 0)) (dCons (dC (.int 0)) (dCons (dC (.int 0)) (dCons (dC (.int 1)) (dCons (dC (.int 1)) (dCons (dC (.bl false)) dNil)))))))))))) dNil))))) (retF (dC (.bl false))) .nx) (seqF (setF 10 (dMakeG F_Book_init [(1, 1), (1, 0), (2, 0), (2, 1), (1, 2), (2, 3), (2, 4), (2, 5), (2, 6), (1, 4), (1, 3)] dNil (dCons (dOp ixD (dVar 2) (dC (.int 1))) (dCons (dOp ixD (dVar 2) (dC (.int 0))) (dCons (dOp ixD (dVar 2) (dC (.int 4))) (dCons (dOp ixD (dVar 2) (dC (.int 10))) (dCons (dOp ixD (dVar 2) (dC (.int 9))) dNil))))) [.int 0, .int 100, .int 0, .int 0, .int 0, .int 0, .int 1, .int 1, .bl false])) (seqF (ifF (dNot (dT (dCall (F_l_same 8) (dCons (dCall F_l_told (dCons (dVar 10) dNil)) (dCons (dLst (dCons (dOp ixD (dVar 2) (dC (.int 0))) (dCons (dOp ixD (dVar 2) (dC (.int 1))) (dCons (dC (.int 0)) (dCons (dC (.int 100)) (dCons (dOp ixD (dVar 2) (dC (.int 4))) (dCons (dC (.int 0)) (dCons (dC (.int 0)) (dCons (dC (.int 0)) (dCons (dC (.int 1)) (dCons (dOp ixD (dVar 2) (dC (.int 9))) (dCons (dOp ixD (dVar 2) (dC (.int 10))) dNil)))))))))))) dNil))))) (retF (dC (.bl false))) .nx) (seqF (ifF (dOr (dNot (dT (dCall F_l_changes_are (dCons (dVar 8) (dCons (dVar 1) (dCons (dVar 3) (dCons (dVar 6) dNil))))))) (dNot (dT (dCall F_l_changes_are (dCons (dVar 8) (dCons (dVar 1) (dCons (dVar 3) (dCons (dVar 2) dNil)))))))) (retF (dC (.bl false))) .nx) (seqF (ifF (dT (dOp neD (dCall F_l_strange (dCons (dVar 8) (dCons (dOp ixD (dVar 3) (dC (.int 7))) dNil))) (dOp ixD (dLst (dCons (dC (.str (Sg [122, 111, 111, 109]))) (dCons (dC (.str (Sg [122, 111, 111, 109]))) (dCons (dC (.str (Sg [115, 112, 114, 101, 97, 100]))) (dCons (dC (.str (Sg [114, 111, 111, 109, 115]))) (dCons (dC (.str (Sg [122, 111, 111, 109]))) dNil)))))) (dOp ixD (dVar 3) (dC (.int 7)))))) (retF (dC (.bl false))) .nx) (seqF (parF 11 12 (dCall F_l_book (dCons (dVar 1) dNil)) (dCall F_l_one_changed (dCons (dVar 8) (dCons (dOp ixD (dVar 3) (dC (.int 8))) (dCons (dOp ixD (dVar 2) (dOp ixD (dVar 3) (dC (.int 8)))) dNil))))) (seqF (setF 13 (dLst (dCons (dTup (dCons (dVar 8) (dCons (dVar 11) (dCons (dC (.bl true)) dNil)))) (dCons (dTup (dCons (dVar 11) (dCons (dVar 12) (dCons (dOp eqD (dOp ixD (dVar 1) (dOp ixD (dVar 3) (dC (.int 8)))) (dOp ixD (dVar 2) (dOp ixD (dVar 3) (dC (.int 8))))) dNil)))) dNil)))) (seqF (forF (dIt itemsL (dOp addD (dVar 13) (dLst (dCons (dTup (dCons (dVar 8) (dCons (dVar 9) (dCons (dOp eqD (dCall F_l_told (dCons (dVar 9) dNil)) (dVar 1)) dNil)))) dNil)))) (tgN 14) Lp_law_1) (seqF (ifF (dOr (dT (dOp (isBD true) (dOp (cmpV "Book" F_Book_eq) (dVar 8) (dCall (g1 listD) (dCons (dVar 1) dNil))) (dC (.bl false)))) (dT (dOp (isBD true) (dOp (cmpV "Book" F_Book_eq) (dVar 8) (dCall (g1 tupleD) (dCons (dVar 1) dNil))) (dC (.bl false))))) (retF (dC (.bl false))) .nx) (retF (dAndV (dCall (F_l_same 8) (dCons (dC (.kt [.str "room", .str "height", .str "joint", .str "over", .str "keep", .str "orphan", .str "widow", .str "wait", .str "columns", .str "gutter", .str "full"])) (dCons (dCall (g1 tupleD) (dCons (dCall F_l_names dNil) dNil)) dNil))) (dCall (F_l_same 8) (dCons (dCall F_l_told (dCons (dVar 8) dNil)) (dCons (dVar 1) dNil))))))))))))))))))))))
def F_law : List D → Res D := runF 16 false Fb_law
end
end Lk
end S_P_data
section S_MM_base
set_option Elab.async false
set_option linter.all false
set_option maxHeartbeats 2000000
set_option maxRecDepth 100000
namespace Lk
open PySem L2 Dx
local macro_rules
  | `(tactic| array_get_dec) => `(tactic| repeat (first
    | ((with_reducible apply Dx.rs_asSJ); · (first | omega | (simp only [List.length_append, List.length_cons, List.length_nil, List.length_map, List.length_range, List.length_replicate, List.length_reverse, List.length_take, List.length_drop]; omega)))
    | with_reducible refine Dx.rs_c ?_
    | with_reducible refine Dx.rs_op ?_
    | with_reducible refine Dx.rs_str ?_
    | with_reducible refine Dx.rs_asS ?_
    | with_reducible refine Dx.rs_un ?_
    | with_reducible refine Dx.rs_nil ?_
    | with_reducible refine Dx.rs_cons ?_
    | with_reducible refine Dx.rs_call ?_
    | with_reducible refine Dx.rs_T ?_
    | with_reducible refine Dx.rs_asB ?_
    | with_reducible refine Dx.rs_asI ?_
    | with_reducible refine Dx.rs_not ?_
    | with_reducible refine Dx.rs_and ?_
    | with_reducible refine Dx.rs_or ?_
    | with_reducible refine Dx.rs_andV ?_
    | with_reducible refine Dx.rs_orV ?_
    | with_reducible refine Dx.rs_notV ?_
    | with_reducible refine Dx.rs_chain ?_
    | with_reducible refine Dx.rs_noP ?_
    | with_reducible refine Dx.rs_part ?_
    | with_reducible refine Dx.rs_sl ?_
    | with_reducible refine Dx.rs_it ?_
    | with_reducible refine Dx.rs_its ?_
    | with_reducible refine Dx.rs_yes ?_
    | with_reducible refine Dx.rs_meth ?_
    | with_reducible refine Dx.rs_tru ?_
    | with_reducible refine Dx.rs_truB ?_
    | with_reducible refine Dx.rs_truI ?_
    | with_reducible refine Dx.rs_truL ?_
    | with_reducible refine Dx.rs_truT ?_
    | with_reducible refine Dx.rs_truN ?_
    | with_reducible refine Dx.rs_ifx ?_
    | with_reducible refine Dx.rs_add ?_
    | with_reducible refine Dx.rs_sub ?_
    | with_reducible refine Dx.rs_neg ?_
    | with_reducible refine Dx.rs_eqI ?_
    | with_reducible refine Dx.rs_neI ?_
    | with_reducible refine Dx.rs_eqS ?_
    | with_reducible refine Dx.rs_neS ?_
    | with_reducible refine Dx.rs_eqB ?_
    | with_reducible refine Dx.rs_neB ?_
    | with_reducible refine Dx.rs_lt ?_
    | with_reducible refine Dx.rs_le ?_
    | with_reducible refine Dx.rs_gt ?_
    | with_reducible refine Dx.rs_ge ?_
    | with_reducible refine Dx.rs_is ?_
    | with_reducible refine Dx.rs_isn ?_
    | with_reducible refine Dx.rs_inS ?_
    | with_reducible refine Dx.rs_ninS ?_
    | with_reducible refine Dx.rs_lenL ?_
    | with_reducible refine Dx.rs_lenF ?_
    | with_reducible refine Dx.rs_lenT ?_
    | with_reducible refine Dx.rs_int ?_
    | with_reducible refine Dx.rs_intB ?_
    | with_reducible refine Dx.rs_abs ?_
    | with_reducible refine Dx.rs_listL ?_
    | with_reducible refine Dx.rs_listT ?_
    | with_reducible refine Dx.rs_tupL ?_
    | with_reducible refine Dx.rs_tupT ?_
    | with_reducible refine Dx.rs_slL ?_
    | with_reducible refine Dx.rs_slO ?_
    | with_reducible refine Dx.rs_slT ?_
    | with_reducible refine Dx.rs_itsL ?_
    | with_reducible refine Dx.rs_itsT ?_
    | with_reducible refine Dx.rs_itsS ?_
    | with_reducible refine Dx.rs_enL ?_
    | with_reducible refine Dx.rs_enT ?_
    | with_reducible refine Dx.rs_enS ?_
    | with_reducible refine Dx.rs_ints ?_
    | with_reducible refine Dx.rs_sortI ?_
    | with_reducible refine Dx.rs_sum ?_
    | with_reducible refine Dx.rs_g2 ?_
    | with_reducible refine Dx.rs_all ?_
    | with_reducible refine Dx.rs_disp ?_
    | with_reducible refine Dx.rs_pnil ?_
    | with_reducible refine Dx.rs_pcons ?_
    | with_reducible refine Dx.rs_jnil ?_
    | with_reducible refine Dx.rs_jcons ?_
    | with_reducible refine Dx.rs_dJoin ?_
    | with_reducible refine Dx.rs_ord ?_
    | with_reducible refine Dx.rs_leS ?_
    | with_reducible refine Dx.rs_inKI ?_
    | with_reducible refine Dx.rs_inI ?_
    | with_reducible refine Dx.rs_ninI ?_
    | with_reducible refine Dx.rs_inTk ?_
    | with_reducible refine Dx.rs_getET ?_
    | with_reducible refine Dx.rs_dD0 ?_
    | with_reducible refine Dx.rs_listTk ?_
    | with_reducible refine Dx.rs_lenTk ?_
    | with_reducible refine Dx.rs_itTk ?_
    | with_reducible refine Dx.rs_end ?_
    | with_reducible refine Dx.rs_start ?_
    | with_reducible refine Dx.rs_star ?_
    | with_reducible refine Dx.rs_itemsL ?_
    | with_reducible refine Dx.rs_itemsT ?_
    | with_reducible refine Dx.rs_zipL ?_
    | with_reducible refine Dx.rs_zipS ?_
    | with_reducible refine Dx.rs_isi_non_bool ?_
    | with_reducible refine Dx.rs_isi_non_int ?_
    | with_reducible refine Dx.rs_isi_non_str ?_
    | with_reducible refine Dx.rs_isi_non_tuple ?_
    | with_reducible refine Dx.rs_isi_non_list ?_
    | with_reducible refine Dx.rs_isi_bl_bool ?_
    | with_reducible refine Dx.rs_isi_bl_int ?_
    | with_reducible refine Dx.rs_isi_bl_str ?_
    | with_reducible refine Dx.rs_isi_bl_tuple ?_
    | with_reducible refine Dx.rs_isi_bl_list ?_
    | with_reducible refine Dx.rs_isi_int_bool ?_
    | with_reducible refine Dx.rs_isi_int_int ?_
    | with_reducible refine Dx.rs_isi_int_str ?_
    | with_reducible refine Dx.rs_isi_int_tuple ?_
    | with_reducible refine Dx.rs_isi_int_list ?_
    | with_reducible refine Dx.rs_isi_str_bool ?_
    | with_reducible refine Dx.rs_isi_str_int ?_
    | with_reducible refine Dx.rs_isi_str_str ?_
    | with_reducible refine Dx.rs_isi_str_tuple ?_
    | with_reducible refine Dx.rs_isi_str_list ?_
    | with_reducible refine Dx.rs_isi_lst_bool ?_
    | with_reducible refine Dx.rs_isi_lst_int ?_
    | with_reducible refine Dx.rs_isi_lst_str ?_
    | with_reducible refine Dx.rs_isi_lst_tuple ?_
    | with_reducible refine Dx.rs_isi_lst_list ?_
    | with_reducible refine Dx.rs_isi_tup_bool ?_
    | with_reducible refine Dx.rs_isi_tup_int ?_
    | with_reducible refine Dx.rs_isi_tup_str ?_
    | with_reducible refine Dx.rs_isi_tup_tuple ?_
    | with_reducible refine Dx.rs_isi_tup_list ?_
    | with_reducible refine Dx.ss_nx ?_
    | with_reducible refine Dx.ss_bk ?_
    | with_reducible refine Dx.ss_ct ?_
    | with_reducible refine Dx.ss_seq ?_
    | with_reducible refine Dx.ss_set ?_
    | with_reducible refine Dx.ss_ret ?_
    | with_reducible refine Dx.ss_drop ?_
    | with_reducible refine Dx.ss_if ?_
    | with_reducible refine Dx.ss_par ?_
    | with_reducible refine Dx.ss_par3 ?_
    | with_reducible refine Dx.ss_aug ?_
    | ((with_reducible apply Dx.rs_var); · (rfl))
    | ((with_reducible apply Dx.rs_ixL); · (first | rfl | assumption))
    | ((with_reducible apply Dx.rs_ixF); · (first | rfl | assumption))
    | ((with_reducible apply Dx.rs_ixT); · (first | rfl | assumption))
    | ((with_reducible apply Dx.rs_fld); · (rfl))
    | ((with_reducible apply Dx.rs_isObj); · (decide))
    | ((with_reducible apply Dx.rs_mod); · (omega))
    | ((with_reducible apply Dx.rs_fdiv); · (omega))
    | ((with_reducible apply Dx.rs_addS); · ((first | exact Nat.le_of_ble_eq_true rfl | assumption | (refine Nat.le_trans (m := 100000) ?_ Dx.sz5; first | omega | (simp only [List.length_append, List.length_cons, List.length_nil, List.length_map, List.length_range, List.length_replicate, List.length_reverse, List.length_take, List.length_drop]; omega)))))
    | ((with_reducible apply Dx.rs_addT); · ((first | exact Nat.le_of_ble_eq_true rfl | assumption | (refine Nat.le_trans (m := 100000) ?_ Dx.sz5; first | omega | (simp only [List.length_append, List.length_cons, List.length_nil, List.length_map, List.length_range, List.length_replicate, List.length_reverse, List.length_take, List.length_drop]; omega)))))
    | ((with_reducible apply Dx.rs_addLL); · ((first | exact Nat.le_of_ble_eq_true rfl | assumption | (refine Nat.le_trans (m := 100000) ?_ Dx.sz5; first | omega | (simp only [List.length_append, List.length_cons, List.length_nil, List.length_map, List.length_range, List.length_replicate, List.length_reverse, List.length_take, List.length_drop]; omega)))))
    | ((with_reducible apply Dx.rs_addLO); · ((first | exact Nat.le_of_ble_eq_true rfl | assumption | (refine Nat.le_trans (m := 100000) ?_ Dx.sz5; first | omega | (simp only [List.length_append, List.length_cons, List.length_nil, List.length_map, List.length_range, List.length_replicate, List.length_reverse, List.length_take, List.length_drop]; omega)))))
    | ((with_reducible apply Dx.rs_lenS); · ((first | exact Nat.le_of_ble_eq_true rfl | assumption | (refine Nat.le_trans (m := 100000) ?_ Dx.sz5; first | omega | (simp only [List.length_append, List.length_cons, List.length_nil, List.length_map, List.length_range, List.length_replicate, List.length_reverse, List.length_take, List.length_drop]; omega)))))
    | ((with_reducible apply Dx.rs_slS); · ((first | exact Nat.le_of_ble_eq_true rfl | assumption | (refine Nat.le_trans (m := 100000) ?_ Dx.sz5; first | omega | (simp only [List.length_append, List.length_cons, List.length_nil, List.length_map, List.length_range, List.length_replicate, List.length_reverse, List.length_take, List.length_drop]; omega)))))
    | ((with_reducible apply Dx.rs_mul); · ((first | exact Or.inl (Dx.small_of (by omega) (by omega)) | exact Or.inr (Dx.small_of (by omega) (by omega)))))
    | ((with_reducible apply Dx.rs_strI); · (omega))
    | ((with_reducible apply Dx.rs_fmtI); · (omega))
    | ((with_reducible apply Dx.rs_fmtS); · ((first | exact Nat.le_of_ble_eq_true rfl | assumption | (refine Nat.le_trans (m := 100000) ?_ Dx.sz5; first | omega | (simp only [List.length_append, List.length_cons, List.length_nil, List.length_map, List.length_range, List.length_replicate, List.length_reverse, List.length_take, List.length_drop]; omega)))))
    | ((with_reducible apply Dx.rs_split); · (refine And.intro (by decide) ?_; (first | exact Nat.le_of_ble_eq_true rfl | assumption | (refine Nat.le_trans (m := 100000) ?_ Dx.sz5; first | omega | (simp only [List.length_append, List.length_cons, List.length_nil, List.length_map, List.length_range, List.length_replicate, List.length_reverse, List.length_take, List.length_drop]; omega)))))
    | ((with_reducible apply Dx.ss_app); · (rfl))
    | (with_reducible refine Dx.rs_tup ?_)
    | (with_reducible refine Dx.rs_lst ?_)
    | ((with_reducible refine And.intro (a := List.length _ ≤ PySem.sizeLine) ?_ ?_); · ((first | exact Nat.le_of_ble_eq_true rfl | assumption | (refine Nat.le_trans (m := 100000) ?_ Dx.sz5; first | omega | (simp only [List.length_append, List.length_cons, List.length_nil, List.length_map, List.length_range, List.length_replicate, List.length_reverse, List.length_take, List.length_drop]; omega)))))
    | ((with_reducible refine And.intro (a := List.length _ < PySem.sizeLine) ?_ ?_); · (first | exact Nat.le_of_ble_eq_true rfl | (refine Nat.lt_of_lt_of_le (m := 100000) ?_ Dx.sz5; first | omega | (simp only [List.length_append, List.length_cons, List.length_nil, List.length_map, List.length_range, List.length_replicate, List.length_reverse, List.length_take, List.length_drop]; omega))))))
local macro_rules
  | `(tactic| array_mem_dec) => `(tactic| repeat (first
    | with_reducible refine Dx.ss_ifo ?_
    | with_reducible refine Dx.ss_ifa ?_
    | with_reducible refine Dx.rs_andc ?_
    | with_reducible refine Dx.rs_orc ?_
    | with_reducible refine Dx.rs_andVc ?_
    | with_reducible refine Dx.rs_orVc ?_
    | ((with_reducible apply Dx.rs_asSJ); · (first | omega | (simp only [List.length_append, List.length_cons, List.length_nil, List.length_map, List.length_range, List.length_replicate, List.length_reverse, List.length_take, List.length_drop]; omega)))
    | with_reducible refine Dx.rs_c ?_
    | with_reducible refine Dx.rs_op ?_
    | with_reducible refine Dx.rs_str ?_
    | with_reducible refine Dx.rs_asS ?_
    | with_reducible refine Dx.rs_un ?_
    | with_reducible refine Dx.rs_nil ?_
    | with_reducible refine Dx.rs_cons ?_
    | with_reducible refine Dx.rs_call ?_
    | with_reducible refine Dx.rs_T ?_
    | with_reducible refine Dx.rs_asB ?_
    | with_reducible refine Dx.rs_asI ?_
    | with_reducible refine Dx.rs_not ?_
    | with_reducible refine Dx.rs_notV ?_
    | with_reducible refine Dx.rs_chain ?_
    | with_reducible refine Dx.rs_noP ?_
    | with_reducible refine Dx.rs_part ?_
    | with_reducible refine Dx.rs_sl ?_
    | with_reducible refine Dx.rs_it ?_
    | with_reducible refine Dx.rs_its ?_
    | with_reducible refine Dx.rs_yes ?_
    | with_reducible refine Dx.rs_meth ?_
    | with_reducible refine Dx.rs_tru ?_
    | with_reducible refine Dx.rs_truB ?_
    | with_reducible refine Dx.rs_truI ?_
    | with_reducible refine Dx.rs_truL ?_
    | with_reducible refine Dx.rs_truT ?_
    | with_reducible refine Dx.rs_truN ?_
    | with_reducible refine Dx.rs_add ?_
    | with_reducible refine Dx.rs_sub ?_
    | with_reducible refine Dx.rs_neg ?_
    | with_reducible refine Dx.rs_eqI ?_
    | with_reducible refine Dx.rs_neI ?_
    | with_reducible refine Dx.rs_eqS ?_
    | with_reducible refine Dx.rs_neS ?_
    | with_reducible refine Dx.rs_eqB ?_
    | with_reducible refine Dx.rs_neB ?_
    | with_reducible refine Dx.rs_lt ?_
    | with_reducible refine Dx.rs_le ?_
    | with_reducible refine Dx.rs_gt ?_
    | with_reducible refine Dx.rs_ge ?_
    | with_reducible refine Dx.rs_is ?_
    | with_reducible refine Dx.rs_isn ?_
    | with_reducible refine Dx.rs_inS ?_
    | with_reducible refine Dx.rs_ninS ?_
    | with_reducible refine Dx.rs_lenL ?_
    | with_reducible refine Dx.rs_lenF ?_
    | with_reducible refine Dx.rs_lenT ?_
    | with_reducible refine Dx.rs_int ?_
    | with_reducible refine Dx.rs_intB ?_
    | with_reducible refine Dx.rs_abs ?_
    | with_reducible refine Dx.rs_listL ?_
    | with_reducible refine Dx.rs_listT ?_
    | with_reducible refine Dx.rs_tupL ?_
    | with_reducible refine Dx.rs_tupT ?_
    | with_reducible refine Dx.rs_slL ?_
    | with_reducible refine Dx.rs_slO ?_
    | with_reducible refine Dx.rs_slT ?_
    | with_reducible refine Dx.rs_itsL ?_
    | with_reducible refine Dx.rs_itsT ?_
    | with_reducible refine Dx.rs_itsS ?_
    | with_reducible refine Dx.rs_enL ?_
    | with_reducible refine Dx.rs_enT ?_
    | with_reducible refine Dx.rs_enS ?_
    | with_reducible refine Dx.rs_ints ?_
    | with_reducible refine Dx.rs_sortI ?_
    | with_reducible refine Dx.rs_sum ?_
    | with_reducible refine Dx.rs_g2 ?_
    | with_reducible refine Dx.rs_all ?_
    | with_reducible refine Dx.rs_disp ?_
    | with_reducible refine Dx.rs_pnil ?_
    | with_reducible refine Dx.rs_pcons ?_
    | with_reducible refine Dx.rs_jnil ?_
    | with_reducible refine Dx.rs_jcons ?_
    | with_reducible refine Dx.rs_dJoin ?_
    | with_reducible refine Dx.rs_ord ?_
    | with_reducible refine Dx.rs_leS ?_
    | with_reducible refine Dx.rs_inKI ?_
    | with_reducible refine Dx.rs_inI ?_
    | with_reducible refine Dx.rs_ninI ?_
    | with_reducible refine Dx.rs_inTk ?_
    | with_reducible refine Dx.rs_getET ?_
    | with_reducible refine Dx.rs_dD0 ?_
    | with_reducible refine Dx.rs_listTk ?_
    | with_reducible refine Dx.rs_lenTk ?_
    | with_reducible refine Dx.rs_itTk ?_
    | with_reducible refine Dx.rs_end ?_
    | with_reducible refine Dx.rs_start ?_
    | with_reducible refine Dx.rs_star ?_
    | with_reducible refine Dx.rs_itemsL ?_
    | with_reducible refine Dx.rs_itemsT ?_
    | with_reducible refine Dx.rs_zipL ?_
    | with_reducible refine Dx.rs_zipS ?_
    | with_reducible refine Dx.rs_isi_non_bool ?_
    | with_reducible refine Dx.rs_isi_non_int ?_
    | with_reducible refine Dx.rs_isi_non_str ?_
    | with_reducible refine Dx.rs_isi_non_tuple ?_
    | with_reducible refine Dx.rs_isi_non_list ?_
    | with_reducible refine Dx.rs_isi_bl_bool ?_
    | with_reducible refine Dx.rs_isi_bl_int ?_
    | with_reducible refine Dx.rs_isi_bl_str ?_
    | with_reducible refine Dx.rs_isi_bl_tuple ?_
    | with_reducible refine Dx.rs_isi_bl_list ?_
    | with_reducible refine Dx.rs_isi_int_bool ?_
    | with_reducible refine Dx.rs_isi_int_int ?_
    | with_reducible refine Dx.rs_isi_int_str ?_
    | with_reducible refine Dx.rs_isi_int_tuple ?_
    | with_reducible refine Dx.rs_isi_int_list ?_
    | with_reducible refine Dx.rs_isi_str_bool ?_
    | with_reducible refine Dx.rs_isi_str_int ?_
    | with_reducible refine Dx.rs_isi_str_str ?_
    | with_reducible refine Dx.rs_isi_str_tuple ?_
    | with_reducible refine Dx.rs_isi_str_list ?_
    | with_reducible refine Dx.rs_isi_lst_bool ?_
    | with_reducible refine Dx.rs_isi_lst_int ?_
    | with_reducible refine Dx.rs_isi_lst_str ?_
    | with_reducible refine Dx.rs_isi_lst_tuple ?_
    | with_reducible refine Dx.rs_isi_lst_list ?_
    | with_reducible refine Dx.rs_isi_tup_bool ?_
    | with_reducible refine Dx.rs_isi_tup_int ?_
    | with_reducible refine Dx.rs_isi_tup_str ?_
    | with_reducible refine Dx.rs_isi_tup_tuple ?_
    | with_reducible refine Dx.rs_isi_tup_list ?_
    | with_reducible refine Dx.ss_nx ?_
    | with_reducible refine Dx.ss_bk ?_
    | with_reducible refine Dx.ss_ct ?_
    | with_reducible refine Dx.ss_seq ?_
    | with_reducible refine Dx.ss_set ?_
    | with_reducible refine Dx.ss_ret ?_
    | with_reducible refine Dx.ss_drop ?_
    | with_reducible refine Dx.ss_if ?_
    | with_reducible refine Dx.ss_par ?_
    | with_reducible refine Dx.ss_par3 ?_
    | with_reducible refine Dx.ss_aug ?_
    | ((with_reducible apply Dx.rs_var); · (rfl))
    | ((with_reducible apply Dx.rs_ixL); · (first | rfl | assumption))
    | ((with_reducible apply Dx.rs_ixF); · (first | rfl | assumption))
    | ((with_reducible apply Dx.rs_ixT); · (first | rfl | assumption))
    | ((with_reducible apply Dx.rs_fld); · (rfl))
    | ((with_reducible apply Dx.rs_isObj); · (decide))
    | ((with_reducible apply Dx.rs_mod); · (omega))
    | ((with_reducible apply Dx.rs_fdiv); · (omega))
    | ((with_reducible apply Dx.rs_addS); · ((first | exact Nat.le_of_ble_eq_true rfl | assumption | (refine Nat.le_trans (m := 100000) ?_ Dx.sz5; first | omega | (simp only [List.length_append, List.length_cons, List.length_nil, List.length_map, List.length_range, List.length_replicate, List.length_reverse, List.length_take, List.length_drop]; omega)))))
    | ((with_reducible apply Dx.rs_addT); · ((first | exact Nat.le_of_ble_eq_true rfl | assumption | (refine Nat.le_trans (m := 100000) ?_ Dx.sz5; first | omega | (simp only [List.length_append, List.length_cons, List.length_nil, List.length_map, List.length_range, List.length_replicate, List.length_reverse, List.length_take, List.length_drop]; omega)))))
    | ((with_reducible apply Dx.rs_addLL); · ((first | exact Nat.le_of_ble_eq_true rfl | assumption | (refine Nat.le_trans (m := 100000) ?_ Dx.sz5; first | omega | (simp only [List.length_append, List.length_cons, List.length_nil, List.length_map, List.length_range, List.length_replicate, List.length_reverse, List.length_take, List.length_drop]; omega)))))
    | ((with_reducible apply Dx.rs_addLO); · ((first | exact Nat.le_of_ble_eq_true rfl | assumption | (refine Nat.le_trans (m := 100000) ?_ Dx.sz5; first | omega | (simp only [List.length_append, List.length_cons, List.length_nil, List.length_map, List.length_range, List.length_replicate, List.length_reverse, List.length_take, List.length_drop]; omega)))))
    | ((with_reducible apply Dx.rs_lenS); · ((first | exact Nat.le_of_ble_eq_true rfl | assumption | (refine Nat.le_trans (m := 100000) ?_ Dx.sz5; first | omega | (simp only [List.length_append, List.length_cons, List.length_nil, List.length_map, List.length_range, List.length_replicate, List.length_reverse, List.length_take, List.length_drop]; omega)))))
    | ((with_reducible apply Dx.rs_slS); · ((first | exact Nat.le_of_ble_eq_true rfl | assumption | (refine Nat.le_trans (m := 100000) ?_ Dx.sz5; first | omega | (simp only [List.length_append, List.length_cons, List.length_nil, List.length_map, List.length_range, List.length_replicate, List.length_reverse, List.length_take, List.length_drop]; omega)))))
    | ((with_reducible apply Dx.rs_mul); · ((first | exact Or.inl (Dx.small_of (by omega) (by omega)) | exact Or.inr (Dx.small_of (by omega) (by omega)))))
    | ((with_reducible apply Dx.rs_strI); · (omega))
    | ((with_reducible apply Dx.rs_fmtI); · (omega))
    | ((with_reducible apply Dx.rs_fmtS); · ((first | exact Nat.le_of_ble_eq_true rfl | assumption | (refine Nat.le_trans (m := 100000) ?_ Dx.sz5; first | omega | (simp only [List.length_append, List.length_cons, List.length_nil, List.length_map, List.length_range, List.length_replicate, List.length_reverse, List.length_take, List.length_drop]; omega)))))
    | ((with_reducible apply Dx.rs_split); · (refine And.intro (by decide) ?_; (first | exact Nat.le_of_ble_eq_true rfl | assumption | (refine Nat.le_trans (m := 100000) ?_ Dx.sz5; first | omega | (simp only [List.length_append, List.length_cons, List.length_nil, List.length_map, List.length_range, List.length_replicate, List.length_reverse, List.length_take, List.length_drop]; omega)))))
    | ((with_reducible apply Dx.ss_app); · (rfl))
    | (with_reducible refine Dx.rs_tup ?_)
    | (with_reducible refine Dx.rs_lst ?_)
    | ((with_reducible refine And.intro (a := List.length _ ≤ PySem.sizeLine) ?_ ?_); · ((first | exact Nat.le_of_ble_eq_true rfl | assumption | (refine Nat.le_trans (m := 100000) ?_ Dx.sz5; first | omega | (simp only [List.length_append, List.length_cons, List.length_nil, List.length_map, List.length_range, List.length_replicate, List.length_reverse, List.length_take, List.length_drop]; omega)))))
    | ((with_reducible refine And.intro (a := List.length _ < PySem.sizeLine) ?_ ?_); · (first | exact Nat.le_of_ble_eq_true rfl | (refine Nat.lt_of_lt_of_le (m := 100000) ?_ Dx.sz5; first | omega | (simp only [List.length_append, List.length_cons, List.length_nil, List.length_map, List.length_range, List.length_replicate, List.length_reverse, List.length_take, List.length_drop]; omega))))
    | ((refine And.intro (fun h => absurd h ?_) (fun _ => ?_)); · (first | exact Bool.false_ne_true | (simp; done) | (simp; omega)))
    | ((refine And.intro (fun _ => ?_) (fun h => absurd h ?_)); rotate_left; · (first | exact (fun h => Bool.false_ne_true h.symm) | (simp; done) | (simp; omega)))))
local macro_rules
  | `(tactic| sizeOf_list_dec) => `(tactic| repeat (first
    | ((with_reducible apply Dx.rs_asSJ); · (first | omega | (simp only [List.length_append, List.length_cons, List.length_nil, List.length_map, List.length_range, List.length_replicate, List.length_reverse, List.length_take, List.length_drop]; omega)))
    | with_reducible refine Dx.rs_c ?_
    | with_reducible refine Dx.rs_op ?_
    | with_reducible refine Dx.rs_str ?_
    | with_reducible refine Dx.rs_asS ?_
    | with_reducible refine Dx.rs_un ?_
    | with_reducible refine Dx.rs_nil ?_
    | with_reducible refine Dx.rs_cons ?_
    | with_reducible refine Dx.rs_call ?_
    | with_reducible refine Dx.rs_T ?_
    | with_reducible refine Dx.rs_asB ?_
    | with_reducible refine Dx.rs_asI ?_
    | with_reducible refine Dx.rs_not ?_
    | with_reducible refine Dx.rs_and ?_
    | with_reducible refine Dx.rs_or ?_
    | with_reducible refine Dx.rs_andV ?_
    | with_reducible refine Dx.rs_orV ?_
    | with_reducible refine Dx.rs_notV ?_
    | with_reducible refine Dx.rs_chain ?_
    | with_reducible refine Dx.rs_noP ?_
    | with_reducible refine Dx.rs_part ?_
    | with_reducible refine Dx.rs_sl ?_
    | with_reducible refine Dx.rs_it ?_
    | with_reducible refine Dx.rs_its ?_
    | with_reducible refine Dx.rs_yes ?_
    | with_reducible refine Dx.rs_meth ?_
    | with_reducible refine Dx.rs_tru ?_
    | with_reducible refine Dx.rs_truB ?_
    | with_reducible refine Dx.rs_truI ?_
    | with_reducible refine Dx.rs_truL ?_
    | with_reducible refine Dx.rs_truT ?_
    | with_reducible refine Dx.rs_truN ?_
    | with_reducible refine Dx.rs_ifx ?_
    | with_reducible refine Dx.rs_add ?_
    | with_reducible refine Dx.rs_sub ?_
    | with_reducible refine Dx.rs_neg ?_
    | with_reducible refine Dx.rs_eqI ?_
    | with_reducible refine Dx.rs_neI ?_
    | with_reducible refine Dx.rs_eqS ?_
    | with_reducible refine Dx.rs_neS ?_
    | with_reducible refine Dx.rs_eqB ?_
    | with_reducible refine Dx.rs_neB ?_
    | with_reducible refine Dx.rs_lt ?_
    | with_reducible refine Dx.rs_le ?_
    | with_reducible refine Dx.rs_gt ?_
    | with_reducible refine Dx.rs_ge ?_
    | with_reducible refine Dx.rs_is ?_
    | with_reducible refine Dx.rs_isn ?_
    | with_reducible refine Dx.rs_inS ?_
    | with_reducible refine Dx.rs_ninS ?_
    | with_reducible refine Dx.rs_lenL ?_
    | with_reducible refine Dx.rs_lenF ?_
    | with_reducible refine Dx.rs_lenT ?_
    | with_reducible refine Dx.rs_int ?_
    | with_reducible refine Dx.rs_intB ?_
    | with_reducible refine Dx.rs_abs ?_
    | with_reducible refine Dx.rs_listL ?_
    | with_reducible refine Dx.rs_listT ?_
    | with_reducible refine Dx.rs_tupL ?_
    | with_reducible refine Dx.rs_tupT ?_
    | with_reducible refine Dx.rs_slL ?_
    | with_reducible refine Dx.rs_slO ?_
    | with_reducible refine Dx.rs_slT ?_
    | with_reducible refine Dx.rs_itsL ?_
    | with_reducible refine Dx.rs_itsT ?_
    | with_reducible refine Dx.rs_itsS ?_
    | with_reducible refine Dx.rs_enL ?_
    | with_reducible refine Dx.rs_enT ?_
    | with_reducible refine Dx.rs_enS ?_
    | with_reducible refine Dx.rs_ints ?_
    | with_reducible refine Dx.rs_sortI ?_
    | with_reducible refine Dx.rs_sum ?_
    | with_reducible refine Dx.rs_g2 ?_
    | with_reducible refine Dx.rs_all ?_
    | with_reducible refine Dx.rs_disp ?_
    | with_reducible refine Dx.rs_pnil ?_
    | with_reducible refine Dx.rs_pcons ?_
    | with_reducible refine Dx.rs_jnil ?_
    | with_reducible refine Dx.rs_jcons ?_
    | with_reducible refine Dx.rs_dJoin ?_
    | with_reducible refine Dx.rs_ord ?_
    | with_reducible refine Dx.rs_leS ?_
    | with_reducible refine Dx.rs_inKI ?_
    | with_reducible refine Dx.rs_inI ?_
    | with_reducible refine Dx.rs_ninI ?_
    | with_reducible refine Dx.rs_inTk ?_
    | with_reducible refine Dx.rs_getET ?_
    | with_reducible refine Dx.rs_dD0 ?_
    | with_reducible refine Dx.rs_listTk ?_
    | with_reducible refine Dx.rs_lenTk ?_
    | with_reducible refine Dx.rs_itTk ?_
    | with_reducible refine Dx.rs_end ?_
    | with_reducible refine Dx.rs_start ?_
    | with_reducible refine Dx.rs_star ?_
    | with_reducible refine Dx.rs_itemsL ?_
    | with_reducible refine Dx.rs_itemsT ?_
    | with_reducible refine Dx.rs_zipL ?_
    | with_reducible refine Dx.rs_zipS ?_
    | with_reducible refine Dx.rs_isi_non_bool ?_
    | with_reducible refine Dx.rs_isi_non_int ?_
    | with_reducible refine Dx.rs_isi_non_str ?_
    | with_reducible refine Dx.rs_isi_non_tuple ?_
    | with_reducible refine Dx.rs_isi_non_list ?_
    | with_reducible refine Dx.rs_isi_bl_bool ?_
    | with_reducible refine Dx.rs_isi_bl_int ?_
    | with_reducible refine Dx.rs_isi_bl_str ?_
    | with_reducible refine Dx.rs_isi_bl_tuple ?_
    | with_reducible refine Dx.rs_isi_bl_list ?_
    | with_reducible refine Dx.rs_isi_int_bool ?_
    | with_reducible refine Dx.rs_isi_int_int ?_
    | with_reducible refine Dx.rs_isi_int_str ?_
    | with_reducible refine Dx.rs_isi_int_tuple ?_
    | with_reducible refine Dx.rs_isi_int_list ?_
    | with_reducible refine Dx.rs_isi_str_bool ?_
    | with_reducible refine Dx.rs_isi_str_int ?_
    | with_reducible refine Dx.rs_isi_str_str ?_
    | with_reducible refine Dx.rs_isi_str_tuple ?_
    | with_reducible refine Dx.rs_isi_str_list ?_
    | with_reducible refine Dx.rs_isi_lst_bool ?_
    | with_reducible refine Dx.rs_isi_lst_int ?_
    | with_reducible refine Dx.rs_isi_lst_str ?_
    | with_reducible refine Dx.rs_isi_lst_tuple ?_
    | with_reducible refine Dx.rs_isi_lst_list ?_
    | with_reducible refine Dx.rs_isi_tup_bool ?_
    | with_reducible refine Dx.rs_isi_tup_int ?_
    | with_reducible refine Dx.rs_isi_tup_str ?_
    | with_reducible refine Dx.rs_isi_tup_tuple ?_
    | with_reducible refine Dx.rs_isi_tup_list ?_
    | with_reducible refine Dx.ss_nx ?_
    | with_reducible refine Dx.ss_bk ?_
    | with_reducible refine Dx.ss_ct ?_
    | with_reducible refine Dx.ss_seq ?_
    | with_reducible refine Dx.ss_set ?_
    | with_reducible refine Dx.ss_ret ?_
    | with_reducible refine Dx.ss_drop ?_
    | with_reducible refine Dx.ss_if ?_
    | with_reducible refine Dx.ss_par ?_
    | with_reducible refine Dx.ss_par3 ?_
    | with_reducible refine Dx.ss_aug ?_
    | ((with_reducible apply Dx.rs_var); · (rfl))
    | ((with_reducible apply Dx.rs_ixL); · (first | rfl | assumption))
    | ((with_reducible apply Dx.rs_ixF); · (first | rfl | assumption))
    | ((with_reducible apply Dx.rs_ixT); · (first | rfl | assumption))
    | ((with_reducible apply Dx.rs_fld); · (rfl))
    | ((with_reducible apply Dx.rs_isObj); · (decide))
    | ((with_reducible apply Dx.rs_mod); · (omega))
    | ((with_reducible apply Dx.rs_fdiv); · (omega))
    | ((with_reducible apply Dx.rs_addS); · ((first | exact Nat.le_of_ble_eq_true rfl | assumption | (refine Nat.le_trans (m := 100000) ?_ Dx.sz5; first | omega | (simp only [List.length_append, List.length_cons, List.length_nil, List.length_map, List.length_range, List.length_replicate, List.length_reverse, List.length_take, List.length_drop]; omega)))))
    | ((with_reducible apply Dx.rs_addT); · ((first | exact Nat.le_of_ble_eq_true rfl | assumption | (refine Nat.le_trans (m := 100000) ?_ Dx.sz5; first | omega | (simp only [List.length_append, List.length_cons, List.length_nil, List.length_map, List.length_range, List.length_replicate, List.length_reverse, List.length_take, List.length_drop]; omega)))))
    | ((with_reducible apply Dx.rs_addLL); · ((first | exact Nat.le_of_ble_eq_true rfl | assumption | (refine Nat.le_trans (m := 100000) ?_ Dx.sz5; first | omega | (simp only [List.length_append, List.length_cons, List.length_nil, List.length_map, List.length_range, List.length_replicate, List.length_reverse, List.length_take, List.length_drop]; omega)))))
    | ((with_reducible apply Dx.rs_addLO); · ((first | exact Nat.le_of_ble_eq_true rfl | assumption | (refine Nat.le_trans (m := 100000) ?_ Dx.sz5; first | omega | (simp only [List.length_append, List.length_cons, List.length_nil, List.length_map, List.length_range, List.length_replicate, List.length_reverse, List.length_take, List.length_drop]; omega)))))
    | ((with_reducible apply Dx.rs_lenS); · ((first | exact Nat.le_of_ble_eq_true rfl | assumption | (refine Nat.le_trans (m := 100000) ?_ Dx.sz5; first | omega | (simp only [List.length_append, List.length_cons, List.length_nil, List.length_map, List.length_range, List.length_replicate, List.length_reverse, List.length_take, List.length_drop]; omega)))))
    | ((with_reducible apply Dx.rs_slS); · ((first | exact Nat.le_of_ble_eq_true rfl | assumption | (refine Nat.le_trans (m := 100000) ?_ Dx.sz5; first | omega | (simp only [List.length_append, List.length_cons, List.length_nil, List.length_map, List.length_range, List.length_replicate, List.length_reverse, List.length_take, List.length_drop]; omega)))))
    | ((with_reducible apply Dx.rs_mul); · ((first | exact Or.inl (Dx.small_of (by omega) (by omega)) | exact Or.inr (Dx.small_of (by omega) (by omega)))))
    | ((with_reducible apply Dx.rs_strI); · (omega))
    | ((with_reducible apply Dx.rs_fmtI); · (omega))
    | ((with_reducible apply Dx.rs_fmtS); · ((first | exact Nat.le_of_ble_eq_true rfl | assumption | (refine Nat.le_trans (m := 100000) ?_ Dx.sz5; first | omega | (simp only [List.length_append, List.length_cons, List.length_nil, List.length_map, List.length_range, List.length_replicate, List.length_reverse, List.length_take, List.length_drop]; omega)))))
    | ((with_reducible apply Dx.rs_split); · (refine And.intro (by decide) ?_; (first | exact Nat.le_of_ble_eq_true rfl | assumption | (refine Nat.le_trans (m := 100000) ?_ Dx.sz5; first | omega | (simp only [List.length_append, List.length_cons, List.length_nil, List.length_map, List.length_range, List.length_replicate, List.length_reverse, List.length_take, List.length_drop]; omega)))))
    | ((with_reducible apply Dx.ss_app); · (rfl))
    | (with_reducible refine Dx.rs_tup ?_)
    | (with_reducible refine Dx.rs_lst ?_)
    | ((with_reducible refine And.intro (a := List.length _ ≤ PySem.sizeLine) ?_ ?_); · ((first | exact Nat.le_of_ble_eq_true rfl | assumption | (refine Nat.le_trans (m := 100000) ?_ Dx.sz5; first | omega | (simp only [List.length_append, List.length_cons, List.length_nil, List.length_map, List.length_range, List.length_replicate, List.length_reverse, List.length_take, List.length_drop]; omega)))))
    | ((with_reducible refine And.intro (a := List.length _ < PySem.sizeLine) ?_ ?_); · (first | exact Nat.le_of_ble_eq_true rfl | (refine Nat.lt_of_lt_of_le (m := 100000) ?_ Dx.sz5; first | omega | (simp only [List.length_append, List.length_cons, List.length_nil, List.length_map, List.length_range, List.length_replicate, List.length_reverse, List.length_take, List.length_drop]; omega))))
    | ((refine And.intro (fun h => absurd h ?_) (fun _ => ?_)); · (first | exact Bool.false_ne_true | (simp; done) | (simp; omega)))
    | ((refine And.intro (fun _ => ?_) (fun h => absurd h ?_)); rotate_left; · (first | exact (fun h => Bool.false_ne_true h.symm) | (simp; done) | (simp; omega)))))
section
theorem cell_eq (ns : List Int) (k : Nat) : F_l_cell [.fz (ns.map D.int), .int k] = .ok (.int (ns.getD k 0)) := Rs.eq (by
  refine rs_run ?_
  unfold Fb_l_cell
  array_get_dec
  refine ⟨fun h => ?_, fun h => ?_⟩
  · have h := of_decide_eq_true h
    rw [List.length_map] at h
    have hk : k < ns.length := by omega
    array_get_dec
    refine rs_ixF (atI_nat (by rw [List.getElem?_map, List.getElem?_eq_getElem hk]; rfl)) ?_
    array_get_dec
    rw [List.getD_eq_getElem?_getD, List.getElem?_eq_getElem hk]; rfl
  · have h := of_decide_eq_false h
    rw [List.length_map] at h
    have hk : ns.length ≤ k := by omega
    array_get_dec
    rw [List.getD_eq_getElem?_getD, List.getElem?_eq_none hk]; rfl)
theorem row_sp (c : Int) (ls : List Int) (hl : ∀ l ∈ ls, 0 < l ∧ l < 4611686018427387904) (hn : ls.length < 10000) : Rs (F_l_row [.int c, iL ls]) (fun d => ∃ vs, d = iL vs ∧ Fit vs ls) nE := by
  refine rs_run ?_
  unfold Fb_l_row
  array_get_dec
  refine ⟨fun hc => ?_, fun hc => ?_⟩
  · array_get_dec
    refine ss_each D.int ls (fun i r => ∃ vs rest y, Fit vs (ls.take i) ∧ r = [some (.int c), some (iL ls), some (iL vs), some (.int rest), y, none, none]) ?_ ?_ ?_ ?_
    · array_get_dec; rfl
    · exact ⟨[], _, none, trivial, rfl⟩
    · rintro i l r hi ⟨vs, rest, y, hf, rfl⟩
      have hl := hl l (List.mem_of_getElem? hi)
      have hlen := hf.len
      rw [List.length_take] at hlen
      unfold Lp_l_row_1
      array_get_dec
      refine ⟨vs ++ [rest % l], rest / l, some (.int l), ?_, by simp [iL]⟩
      rw [take_snoc hi]
      exact hf.snoc (Int.emod_nonneg _ (by omega)) (Int.emod_lt_of_pos _ hl.1)
    · rintro r ⟨vs, rest, y, hf, rfl⟩
      rw [List.take_length] at hf
      array_get_dec
      exact ⟨vs, rfl, hf⟩
  · array_get_dec
    refine ss_rng ls.length (fun i r => ∃ vs y z, Fit vs (ls.take i) ∧ r = [some (.int c), some (iL ls), some (iL vs), none, none, y, z]) ?_ (by omega) ?_ ?_ ?_
    · array_get_dec
      rw [List.length_map]
    · exact ⟨[], none, none, trivial, rfl⟩
    · rintro k r hk ⟨vs, y, z, hf, rfl⟩
      have hlen := hf.len
      rw [List.length_take] at hlen
      have hg : ls[k]? = some ls[k] := List.getElem?_eq_getElem hk
      have hl := hl ls[k] (List.getElem_mem hk)
      generalize ls[k] = l at hg hl
      unfold Lp_l_row_2
      array_get_dec
      refine rs_ixL (d := .int l) (atI_nat (by rw [List.getElem?_map, hg]; rfl)) ?_
      array_get_dec
      refine ⟨vs ++ [_], _, _, ?_, by simp [iL]; exact ⟨rfl, rfl, rfl⟩⟩
      rw [take_snoc hg]
      exact hf.snoc (Int.emod_nonneg _ (by omega)) (Int.emod_lt_of_pos _ hl.1)
    · rintro r ⟨vs, y, z, hf, rfl⟩
      rw [List.take_length] at hf
      array_get_dec
      exact ⟨vs, rfl, hf⟩
end
section
structure Cd {α : Type} [DecidableEq α] (P : α → Prop) (f : α → D) (n : Nat) (py : α → PyData) : Prop where
  e : ∀ a, P a → toPy (f a) = some (py a)
  l : ∀ a, P a → PyData.canLay0 (py a) = true ∧ PyData.depth (py a) ≤ n
  q : ∀ a b, P a → P b → PyData.eqv (py a) (py b) = decide (a = b)
section
variable {α β γ δ ε : Type} [DecidableEq α] [DecidableEq β] [DecidableEq γ] [DecidableEq δ] [DecidableEq ε] {P : α → Prop} {R : β → Prop} {T : γ → Prop} {U : δ → Prop} {f : α → D} {g : β → D} {h : γ → D} {k : δ → D} {n : Nat} {py : α → PyData} {pz : β → PyData} {pw : γ → PyData} {px : δ → PyData}
theorem Cd.all (c : Cd P f n py) : ∀ xs : List α, (∀ x ∈ xs, P x) → toPyL (xs.map f) = some (xs.map py) ∧ PyData.canLayAll0 (xs.map py) = true ∧ PyData.depthAll (xs.map py) ≤ n
  | [], _ => ⟨by simp [toPyL], by simp [PyData.canLayAll0], by simp [PyData.depthAll]⟩
  | x :: xs, hx => by
    obtain ⟨h1, h2, h3⟩ := c.all xs fun y hy => hx y (List.mem_cons_of_mem _ hy)
    have hp := hx x List.mem_cons_self
    refine ⟨by rw [List.map_cons, toPyL, h1, c.e x hp]; rfl, ?_, ?_⟩
    · rw [List.map_cons, PyData.canLayAll0, h2, (c.l x hp).1]; rfl
    · rw [List.map_cons, PyData.depthAll]
      exact Nat.max_le.mpr ⟨(c.l x hp).2, h3⟩
theorem eq_cd (c : Cd P f n py) (hn : n ≤ 64) {a b : α} (ha : P a) (hb : P b) (hf : eqFlat (f a) (f b) = none) : eqB (f a) (f b) = .ok (decide (a = b)) := by
  have sh : ∀ a, P a → SeqAt.shaped (py a) = true := fun a ha => by
    obtain ⟨h1, h2⟩ := c.l a ha
    unfold SeqAt.shaped
    rw [h1, decide_eq_true (by omega)]
    rfl
  unfold eqB
  rw [hf]
  dsimp only
  unfold eqDeep
  rw [c.e a ha, c.e b hb]
  dsimp only
  rw [if_pos ⟨sh a ha, sh b hb⟩, c.q a b ha hb]
theorem rs_eqC {Q : D → Prop} {E : Str → List Str → List D → Prop} (c : Cd P f n py) (hn : n ≤ 64) {a b : α} (ha : P a) (hb : P b) (hf : eqFlat (f a) (f b) = none) (q : Q (.bl (decide (a = b)))) : Rs (eqD (f a) (f b)) Q E := by
  unfold eqD
  rw [eq_cd c hn ha hb hf]
  exact q
end
end
section
theorem row_of (c : Int) (ls : List Int) {Q : D → Prop} {E : Str → List Str → List D → Prop} (hl : ∀ l ∈ ls, 0 < l ∧ l < 4611686018427387904) (hn : ls.length < 10000) (q : ∀ vs, Fit vs ls → Q (iL vs)) : Rs (F_l_row [.int c, iL ls]) Q E := (row_sp c ls hl hn).imp fun d ⟨vs, e, h⟩ => by subst e; exact q vs h
theorem ix_row {vs : List Int} {ls : List Int} {k : Nat} {l : Int} {i : Int} {Q : D → Prop} {E : Str → List Str → List D → Prop} (h : Fit vs ls) (hk : ls[k]? = some l) (hi : i = (k : Int)) (q : ∀ v, vs[k]? = some v → 0 ≤ v → v < l → Q (.int v)) : Rs (ixD (iL vs) (.int i)) Q E := by
  obtain ⟨v, h1, h2, h3⟩ := h.get hk
  subst hi
  exact rs_ixL (atI_nat (by rw [List.getElem?_map, h1]; rfl)) (q v h1 h2 h3)
theorem same_int (n : Nat) (i : Int) : F_l_same (n + 1) [.int i, .int i] = .ok (.bl true) := Rs.eq (by
  refine rs_run ?_
  unfold Fb_l_same
  sizeOf_list_dec
  simp)
theorem same_bl (n : Nat) (i : Bool) : F_l_same (n + 1) [.bl i, .bl i] = .ok (.bl true) := Rs.eq (by
  refine rs_run ?_
  unfold Fb_l_same
  sizeOf_list_dec
  simp)
theorem same_non (n : Nat) : F_l_same (n + 1) [.non, .non] = .ok (.bl true) := Rs.eq (by
  refine rs_run ?_
  unfold Fb_l_same
  sizeOf_list_dec
  rfl)
theorem same_str (n : Nat) (l : List Nat) : F_l_same (n + 1) [.str (Sg l), .str (Sg l)] = .ok (.bl true) := Rs.eq (by
  refine rs_run ?_
  unfold Fb_l_same
  sizeOf_list_dec
  simp)
theorem same_lst (n : Nat) (ds : List D) (hl : ds.length ≤ 10000) (h : ∀ d ∈ ds, F_l_same n [d, d] = .ok (.bl true)) : F_l_same (n + 1) [.lst ds, .lst ds] = .ok (.bl true) := Rs.eq (by
  refine rs_run ?_
  unfold Fb_l_same
  sizeOf_list_dec
  refine ss_rng ds.length (fun i r => ∃ x, r = [some (.lst ds), some (.lst ds), x]) (by array_get_dec; rfl) (by omega) ⟨none, rfl⟩ ?_ ?_
  · rintro i r hi ⟨x, rfl⟩
    show Ss (Lp_l_same_1 (F_l_same n) [some (.lst ds), some (.lst ds), some (.int (i : Int))]) _ _ _ _ _
    unfold Lp_l_same_1
    array_get_dec
    refine rs_ixL (atI_nat (List.getElem?_eq_getElem hi)) ?_
    array_get_dec
    refine rs_ixL (atI_nat (List.getElem?_eq_getElem hi)) ?_
    array_get_dec
    refine Rs.of (h _ (List.getElem_mem hi)) ?_
    sizeOf_list_dec
    exact ⟨_, rfl⟩
  · rintro r ⟨x, rfl⟩
    array_get_dec
    rfl)
theorem same_tup (n : Nat) (ds : List D) (hl : ds.length ≤ 10000) (h : ∀ d ∈ ds, F_l_same n [d, d] = .ok (.bl true)) : F_l_same (n + 1) [.tup ds, .tup ds] = .ok (.bl true) := Rs.eq (by
  refine rs_run ?_
  unfold Fb_l_same
  sizeOf_list_dec
  refine ss_rng ds.length (fun i r => ∃ x, r = [some (.tup ds), some (.tup ds), x]) (by array_get_dec; rfl) (by omega) ⟨none, rfl⟩ ?_ ?_
  · rintro i r hi ⟨x, rfl⟩
    show Ss (Lp_l_same_1 (F_l_same n) [some (.tup ds), some (.tup ds), some (.int (i : Int))]) _ _ _ _ _
    unfold Lp_l_same_1
    array_get_dec
    refine rs_ixT (atI_nat (List.getElem?_eq_getElem hi)) ?_
    array_get_dec
    refine rs_ixT (atI_nat (List.getElem?_eq_getElem hi)) ?_
    array_get_dec
    refine Rs.of (h _ (List.getElem_mem hi)) ?_
    sizeOf_list_dec
    exact ⟨_, rfl⟩
  · rintro r ⟨x, rfl⟩
    array_get_dec
    rfl)
end
section
inductive PV where
  | i (n : Int)
  | b (x : Bool)
  | n
  | s (l : List Nat)
  | t0
  | t1
  | t2
deriving DecidableEq, Inhabited
def pvD : PV → D
  | .i n => .int n
  | .b x => .bl x
  | .n => .non
  | .s l => .str (Sg l)
  | .t0 => .tup []
  | .t1 => .tup [.bl true]
  | .t2 => .tup [.int 1]
def isNumP : PV → Bool
  | .i _ => true
  | _ => false
def isBlP : PV → Bool
  | .b _ => true
  | _ => false
def numOk (lo hi : Int) : PV → Bool
  | .i n => decide (lo ≤ n) && decide (n ≤ hi)
  | _ => false
def loL : List Int := [1, 1, 0, 0, 0, 0, 0, 0, 1, 0]
def hiL : List Int := [2000, 2000, 2000, 2000, 2000, 2000, 2000, 2000, 4, 40]
def fitP (k : Nat) (p : PV) : Bool := if k = 10 then isBlP p else numOk (loL.getD k 0) (hiL.getD k 0) p
def nmL : List Str := ["room", "height", "joint", "over", "keep", "orphan", "widow", "wait", "columns", "gutter", "full"]
def nm12 : List Str := ["room", "height", "joint", "over", "keep", "orphan", "widow", "wait", "columns", "gutter", "full", "field_values"]
/-- the first value that does not fit -/
def badK (xs : List PV) : Option Nat := (List.range 11).find? fun k => !fitP k (xs.getD k .n)
def bkD (xs : List PV) : D := .obj "Book" nm12 (xs.map pvD ++ [.tup (xs.map pvD)])
def resB (xs : List PV) : Res D := match badK xs with
  | none => .ok (bkD xs)
  | some k => .err "BadBook" ["field"] [.str (nmL.getD k "")]
theorem num_sp (p : PV) : F_is_number [pvD p] = .ok (.bl (isNumP p)) := Rs.eq (by
  refine rs_run ?_
  unfold Fb_is_number
  cases p <;> unfold pvD <;> sizeOf_list_dec <;> rfl)
theorem lnum_sp (p : PV) : F_l_number [pvD p] = .ok (.bl (isNumP p)) := Rs.eq (by
  refine rs_run ?_
  unfold Fb_l_number
  cases p <;> unfold pvD <;> sizeOf_list_dec <;> rfl)
theorem isb_sp (p : PV) : isiD "bool" (pvD p) = .ok (.bl (isBlP p)) := Rs.eq (by
  cases p <;> unfold pvD <;> array_get_dec <;> rfl)
theorem within_sp (p : PV) (lo hi : Int) : F_is_within [pvD p, .int lo, .int hi] = .ok (.bl (numOk lo hi p)) := Rs.eq (by
  refine rs_run ?_
  unfold Fb_is_within
  show Ss (retF _ [some (pvD p), some (.int lo), some (.int hi)]) _ _ _ _ _
  refine ss_ret (rs_andVc (rs_call (rs_cons (rs_var rfl (rs_nil (Rs.of (num_sp p) ?_))))))
  cases p with
  | i n =>
    unfold pvD
    refine ⟨fun _ => ?_, fun h => by cases h⟩
    array_get_dec
    unfold numOk
    by_cases h : lo ≤ n
    · simp [h]
    · simp [h]
  | _ => exact ⟨fun h => (by cases h), fun _ => rfl⟩)
theorem bad_of {xs : List PV} {k : Nat} (hk : k < 11) (h : fitP k (xs.getD k .n) = false) (hb : ∀ j, j < k → fitP j (xs.getD j .n) = true) : badK xs = some k := by
  unfold badK
  rw [List.find?_range_eq_some]
  refine ⟨by rw [h]; rfl, List.mem_range.mpr hk, fun j hj => by rw [hb j hj]; rfl⟩
theorem bad_none {xs : List PV} (hb : ∀ j, j < 11 → fitP j (xs.getD j .n) = true) : badK xs = none := by
  unfold badK
  rw [List.find?_eq_none]
  intro j hj
  rw [hb j (List.mem_range.mp hj)]
  exact Bool.false_ne_true
end
section
theorem putN_new {fl : Str} (d : D) : ∀ (ns : List Str) {vs : List D}, fl ∉ ns → ns.length = vs.length → putN fl d ns vs = (ns ++ [fl], vs ++ [d])
  | [], [], _, _ => rfl
  | n :: ns, v :: vs, h, hl => by
    have h1 : ¬ n = fl := fun z => h (by rw [z]; exact List.mem_cons_self)
    have ih := putN_new d ns (vs := vs) (fun z => h (List.mem_cons_of_mem _ z)) (by simpa using hl)
    unfold putN
    first | rw [if_neg h1, ih] | rw [if_neg (fun z => h1 z.symm), ih]
    rfl
  | [], _ :: _, _, hl => by simp at hl
  | _ :: _, [], _, hl => by simp at hl
theorem ss_fst0 {n fl : Str} {ns ns' : List Str} {vs vs' : List D} {rest : Rho} {v : D} {f : Rho → Res D} {N B C : Rho → Prop} {R : D → Prop} {E : Rho → Str → List Str → List D → Prop} (h : Rs (f (some (.obj n ns vs) :: rest)) (fun d => d = v) nE) (hl : ns.length < 1000) (hp : putN fl v ns vs = (ns', vs')) (q : N (some (.obj n ns' vs') :: rest)) : Ss (fstF 0 n fl f (some (.obj n ns vs) :: rest)) N R B C E :=
  ss_fst (ns := ns) (vs := vs) (h.impE (fun d e => by
    subst e
    refine ⟨rfl, hl, ?_⟩
    rw [hp]
    exact q) fun _ _ _ z => z.elim)
def ErB (xs : List PV) : Str → List Str → List D → Prop := fun c ns vs => ∃ k, badK xs = some k ∧ c = ("BadBook" : Str) ∧ ns = (["field"] : List Str) ∧ vs = [.str (nmL.getD k "")]
theorem binit_sp (a0 a1 a2 a3 a4 a5 a6 a7 a8 a9 a10 : PV) : Rs (F_Book_init [pvD a0, pvD a1, pvD a2, pvD a3, pvD a4, pvD a5, pvD a6, pvD a7, pvD a8, pvD a9, pvD a10]) (fun d => badK [a0, a1, a2, a3, a4, a5, a6, a7, a8, a9, a10] = none ∧ d = bkD [a0, a1, a2, a3, a4, a5, a6, a7, a8, a9, a10]) (ErB [a0, a1, a2, a3, a4, a5, a6, a7, a8, a9, a10]) := by
  have hxs : ([a0, a1, a2, a3, a4, a5, a6, a7, a8, a9, a10] : List PV).getD 10 .n = a10 := rfl
  refine rs_runI ?_
  unfold Fb_Book_init
  have hq : ∀ i, i < 10 → (quads [.str "room", .str "height", .str "joint", .str "over", .str "keep", .str "orphan", .str "widow", .str "wait", .str "columns", .str "gutter", .str "full"] [pvD a0, pvD a1, pvD a2, pvD a3, pvD a4, pvD a5, pvD a6, pvD a7, pvD a8, pvD a9] [.int 1, .int 1, .int 0, .int 0, .int 0, .int 0, .int 0, .int 0, .int 1, .int 0] [.int 2000, .int 2000, .int 2000, .int 2000, .int 2000, .int 2000, .int 2000, .int 2000, .int 4, .int 40])[i]? = some (.tup [.str (nmL.getD i ""), pvD (([a0, a1, a2, a3, a4, a5, a6, a7, a8, a9, a10] : List PV).getD i .n), .int (loL.getD i 0), .int (hiL.getD i 0)]) := by
    intro i hi
    have : i = 0 ∨ i = 1 ∨ i = 2 ∨ i = 3 ∨ i = 4 ∨ i = 5 ∨ i = 6 ∨ i = 7 ∨ i = 8 ∨ i = 9 := by omega
    rcases this with rfl | rfl | rfl | rfl | rfl | rfl | rfl | rfl | rfl | rfl <;> rfl
  refine ss_seq (ss_cut (fun z => z = [some (.obj "Book" [] []), some (pvD a0), some (pvD a1), some (pvD a2), some (pvD a3), some (pvD a4), some (pvD a5), some (pvD a6), some (pvD a7), some (pvD a8), some (pvD a9), some (pvD a10), some (.tup [pvD a0, pvD a1, pvD a2, pvD a3, pvD a4, pvD a5, pvD a6, pvD a7, pvD a8, pvD a9]), none, none, none, none]) ?_ ?_)
  · array_get_dec
    rfl
  rintro _ rfl
  refine ss_seq (ss_cut (fun z => ∃ rest : Rho, z = some (.obj "Book" [] []) :: rest ∧ (∀ j, j < 10 → fitP j (([a0, a1, a2, a3, a4, a5, a6, a7, a8, a9, a10] : List PV).getD j .n) = true) ∧ rest[0]? = some (some (pvD a0)) ∧ rest[1]? = some (some (pvD a1)) ∧ rest[2]? = some (some (pvD a2)) ∧ rest[3]? = some (some (pvD a3)) ∧ rest[4]? = some (some (pvD a4)) ∧ rest[5]? = some (some (pvD a5)) ∧ rest[6]? = some (some (pvD a6)) ∧ rest[7]? = some (some (pvD a7)) ∧ rest[8]? = some (some (pvD a8)) ∧ rest[9]? = some (some (pvD a9)) ∧ rest[10]? = some (some (pvD a10)) ∧ rest[11]? = some (some (.tup [pvD a0, pvD a1, pvD a2, pvD a3, pvD a4, pvD a5, pvD a6, pvD a7, pvD a8, pvD a9]))) ?_ ?_)
  · refine ss_for (fun i z => ∃ a b c d, z = [some (.obj "Book" [] []), some (pvD a0), some (pvD a1), some (pvD a2), some (pvD a3), some (pvD a4), some (pvD a5), some (pvD a6), some (pvD a7), some (pvD a8), some (pvD a9), some (pvD a10), some (.tup [pvD a0, pvD a1, pvD a2, pvD a3, pvD a4, pvD a5, pvD a6, pvD a7, pvD a8, pvD a9]), a, b, c, d] ∧ ∀ j, j < i → fitP j (([a0, a1, a2, a3, a4, a5, a6, a7, a8, a9, a10] : List PV).getD j .n) = true) ?_
    refine rs_its (rs_cons (rs_c (rs_cons (rs_var rfl (rs_cons (rs_c (rs_cons (rs_c (rs_nil ?_)))))))))
    refine Rs.of (a := quads _ _ _ _) rfl ⟨⟨_, _, _, _, rfl, fun j hj => absurd hj (Nat.not_lt_zero j)⟩, ?_, fun z ⟨a, b, c, d, hz, hf⟩ => ⟨_, hz, hf, rfl, rfl, rfl, rfl, rfl, rfl, rfl, rfl, rfl, rfl, rfl, rfl⟩⟩
    rintro i d z hd ⟨a, b, c, e, rfl, hf⟩
    have hi : i < 10 := by
      have := (List.getElem?_eq_some_iff.mp hd).1
      exact this
    rw [hq i hi] at hd
    cases hd
    refine ⟨_, rfl, ?_⟩
    unfold Lp_Book_init_1
    have hfi : fitP i (([a0, a1, a2, a3, a4, a5, a6, a7, a8, a9, a10] : List PV).getD i .n) = numOk (loL.getD i 0) (hiL.getD i 0) (([a0, a1, a2, a3, a4, a5, a6, a7, a8, a9, a10] : List PV).getD i .n) := by
      unfold fitP
      rw [if_neg (by omega)]
    show Ss (ifF _ _ _ [some (.obj "Book" [] []), some (pvD a0), some (pvD a1), some (pvD a2), some (pvD a3), some (pvD a4), some (pvD a5), some (pvD a6), some (pvD a7), some (pvD a8), some (pvD a9), some (pvD a10), some (.tup [pvD a0, pvD a1, pvD a2, pvD a3, pvD a4, pvD a5, pvD a6, pvD a7, pvD a8, pvD a9]), some (.str (nmL.getD i "")), some (pvD (([a0, a1, a2, a3, a4, a5, a6, a7, a8, a9, a10] : List PV).getD i .n)), some (.int (loL.getD i 0)), some (.int (hiL.getD i 0))]) _ _ _ _ _
    refine ss_if (rs_not (rs_T (rs_call (rs_cons (rs_var rfl (rs_cons (rs_var rfl (rs_cons (rs_var rfl (rs_nil (Rs.of (within_sp _ _ _) (rs_asB ?_))))))))))))
    rw [← hfi]
    cases hv : fitP i (([a0, a1, a2, a3, a4, a5, a6, a7, a8, a9, a10] : List PV).getD i .n) with
    | false =>
      refine ⟨fun _ => ss_raise (rs_cons (rs_var rfl (rs_nil ⟨rfl, ?_⟩))), fun h => (by cases h)⟩
      exact ⟨i, bad_of (by omega) hv hf, rfl, rfl, rfl⟩
    | true =>
      refine ⟨fun h => (by cases h), fun _ => ?_⟩
      refine ss_nx ⟨_, _, _, _, rfl, fun j hj => ?_⟩
      rcases Nat.lt_or_ge j i with h | h
      · exact hf j h
      · have : j = i := by omega
        rw [this]; exact hv
  rintro _ ⟨rest, rfl, hf, k0, k1, k2, k3, k4, k5, k6, k7, k8, k9, k10, k11⟩
  refine ss_seq (ss_cut (fun z => z = some (.obj "Book" [] []) :: rest ∧ badK [a0, a1, a2, a3, a4, a5, a6, a7, a8, a9, a10] = none) ?_ ?_)
  · refine ss_if (rs_not (rs_T (rs_un (rs_var k10 (Rs.of (isb_sp a10) (rs_asB ?_))))))
    have h10 : fitP 10 (([a0, a1, a2, a3, a4, a5, a6, a7, a8, a9, a10] : List PV).getD 10 .n) = isBlP a10 := rfl
    cases hb : isBlP a10 with
    | false =>
      refine ⟨fun _ => ss_raise (rs_cons (rs_c (rs_nil ⟨rfl, ?_⟩))), fun h => (by cases h)⟩
      exact ⟨10, bad_of (by omega) (h10.trans hb) hf, rfl, rfl, by rfl⟩
    | true =>
      refine ⟨fun h => (by cases h), fun _ => ss_nx ⟨rfl, bad_none fun j hj => ?_⟩⟩
      rcases Nat.lt_or_ge j 10 with h | h
      · exact hf j h
      · have : j = 10 := by omega
        rw [this]; exact h10.trans hb
  rintro _ ⟨rfl, hnone⟩
  refine ss_seq (ss_fst0 (ns := []) (vs := []) (ns' := ["room"]) (vs' := [pvD a0]) (v := pvD a0) (rs_var k0 rfl) (Nat.le_of_ble_eq_true rfl) (putN_new _ _ (by decide +kernel) rfl) ?_)
  refine ss_seq (ss_fst0 (ns := ["room"]) (vs := [pvD a0]) (ns' := ["room", "height"]) (vs' := [pvD a0, pvD a1]) (v := pvD a1) (rs_var k1 rfl) (Nat.le_of_ble_eq_true rfl) (putN_new _ _ (by decide +kernel) rfl) ?_)
  refine ss_seq (ss_fst0 (ns := ["room", "height"]) (vs := [pvD a0, pvD a1]) (ns' := ["room", "height", "joint"]) (vs' := [pvD a0, pvD a1, pvD a2]) (v := pvD a2) (rs_var k2 rfl) (Nat.le_of_ble_eq_true rfl) (putN_new _ _ (by decide +kernel) rfl) ?_)
  refine ss_seq (ss_fst0 (ns := ["room", "height", "joint"]) (vs := [pvD a0, pvD a1, pvD a2]) (ns' := ["room", "height", "joint", "over"]) (vs' := [pvD a0, pvD a1, pvD a2, pvD a3]) (v := pvD a3) (rs_var k3 rfl) (Nat.le_of_ble_eq_true rfl) (putN_new _ _ (by decide +kernel) rfl) ?_)
  refine ss_seq (ss_fst0 (ns := ["room", "height", "joint", "over"]) (vs := [pvD a0, pvD a1, pvD a2, pvD a3]) (ns' := ["room", "height", "joint", "over", "keep"]) (vs' := [pvD a0, pvD a1, pvD a2, pvD a3, pvD a4]) (v := pvD a4) (rs_var k4 rfl) (Nat.le_of_ble_eq_true rfl) (putN_new _ _ (by decide +kernel) rfl) ?_)
  refine ss_seq (ss_fst0 (ns := ["room", "height", "joint", "over", "keep"]) (vs := [pvD a0, pvD a1, pvD a2, pvD a3, pvD a4]) (ns' := ["room", "height", "joint", "over", "keep", "orphan"]) (vs' := [pvD a0, pvD a1, pvD a2, pvD a3, pvD a4, pvD a5]) (v := pvD a5) (rs_var k5 rfl) (Nat.le_of_ble_eq_true rfl) (putN_new _ _ (by decide +kernel) rfl) ?_)
  refine ss_seq (ss_fst0 (ns := ["room", "height", "joint", "over", "keep", "orphan"]) (vs := [pvD a0, pvD a1, pvD a2, pvD a3, pvD a4, pvD a5]) (ns' := ["room", "height", "joint", "over", "keep", "orphan", "widow"]) (vs' := [pvD a0, pvD a1, pvD a2, pvD a3, pvD a4, pvD a5, pvD a6]) (v := pvD a6) (rs_var k6 rfl) (Nat.le_of_ble_eq_true rfl) (putN_new _ _ (by decide +kernel) rfl) ?_)
  refine ss_seq (ss_fst0 (ns := ["room", "height", "joint", "over", "keep", "orphan", "widow"]) (vs := [pvD a0, pvD a1, pvD a2, pvD a3, pvD a4, pvD a5, pvD a6]) (ns' := ["room", "height", "joint", "over", "keep", "orphan", "widow", "wait"]) (vs' := [pvD a0, pvD a1, pvD a2, pvD a3, pvD a4, pvD a5, pvD a6, pvD a7]) (v := pvD a7) (rs_var k7 rfl) (Nat.le_of_ble_eq_true rfl) (putN_new _ _ (by decide +kernel) rfl) ?_)
  refine ss_seq (ss_fst0 (ns := ["room", "height", "joint", "over", "keep", "orphan", "widow", "wait"]) (vs := [pvD a0, pvD a1, pvD a2, pvD a3, pvD a4, pvD a5, pvD a6, pvD a7]) (ns' := ["room", "height", "joint", "over", "keep", "orphan", "widow", "wait", "columns"]) (vs' := [pvD a0, pvD a1, pvD a2, pvD a3, pvD a4, pvD a5, pvD a6, pvD a7, pvD a8]) (v := pvD a8) (rs_var k8 rfl) (Nat.le_of_ble_eq_true rfl) (putN_new _ _ (by decide +kernel) rfl) ?_)
  refine ss_seq (ss_fst0 (ns := ["room", "height", "joint", "over", "keep", "orphan", "widow", "wait", "columns"]) (vs := [pvD a0, pvD a1, pvD a2, pvD a3, pvD a4, pvD a5, pvD a6, pvD a7, pvD a8]) (ns' := ["room", "height", "joint", "over", "keep", "orphan", "widow", "wait", "columns", "gutter"]) (vs' := [pvD a0, pvD a1, pvD a2, pvD a3, pvD a4, pvD a5, pvD a6, pvD a7, pvD a8, pvD a9]) (v := pvD a9) (rs_var k9 rfl) (Nat.le_of_ble_eq_true rfl) (putN_new _ _ (by decide +kernel) rfl) ?_)
  refine ss_seq (ss_fst0 (ns := ["room", "height", "joint", "over", "keep", "orphan", "widow", "wait", "columns", "gutter"]) (vs := [pvD a0, pvD a1, pvD a2, pvD a3, pvD a4, pvD a5, pvD a6, pvD a7, pvD a8, pvD a9]) (ns' := ["room", "height", "joint", "over", "keep", "orphan", "widow", "wait", "columns", "gutter", "full"]) (vs' := [pvD a0, pvD a1, pvD a2, pvD a3, pvD a4, pvD a5, pvD a6, pvD a7, pvD a8, pvD a9, pvD a10]) (v := pvD a10) (rs_var k10 rfl) (Nat.le_of_ble_eq_true rfl) (putN_new _ _ (by decide +kernel) rfl) ?_)
  refine ss_fst0 (ns := ["room", "height", "joint", "over", "keep", "orphan", "widow", "wait", "columns", "gutter", "full"]) (vs := [pvD a0, pvD a1, pvD a2, pvD a3, pvD a4, pvD a5, pvD a6, pvD a7, pvD a8, pvD a9, pvD a10]) (ns' := ["room", "height", "joint", "over", "keep", "orphan", "widow", "wait", "columns", "gutter", "full", "field_values"]) (vs' := [pvD a0, pvD a1, pvD a2, pvD a3, pvD a4, pvD a5, pvD a6, pvD a7, pvD a8, pvD a9, pvD a10, .tup [pvD a0, pvD a1, pvD a2, pvD a3, pvD a4, pvD a5, pvD a6, pvD a7, pvD a8, pvD a9, pvD a10]]) (v := .tup [pvD a0, pvD a1, pvD a2, pvD a3, pvD a4, pvD a5, pvD a6, pvD a7, pvD a8, pvD a9, pvD a10]) ?_ (Nat.le_of_ble_eq_true rfl) (putN_new _ _ (by decide +kernel) rfl) ⟨_, rfl, hnone, rfl⟩
  refine rs_op (rs_var k11 (rs_tup (rs_cons (rs_var k10 (rs_nil ⟨Nat.le_of_ble_eq_true rfl, ?_⟩)))))
  exact rs_addT (Nat.le_of_ble_eq_true rfl) rfl
theorem list11 {xs : List PV} (h : xs.length = 11) : ∃ a0 a1 a2 a3 a4 a5 a6 a7 a8 a9 a10, xs = [a0, a1, a2, a3, a4, a5, a6, a7, a8, a9, a10] := by
  match xs, h with
  | [a0, a1, a2, a3, a4, a5, a6, a7, a8, a9, a10], _ => exact ⟨a0, a1, a2, a3, a4, a5, a6, a7, a8, a9, a10, rfl⟩
theorem binit (xs : List PV) (h : xs.length = 11) : F_Book_init (xs.map pvD) = resB xs := by
  obtain ⟨a0, a1, a2, a3, a4, a5, a6, a7, a8, a9, a10, rfl⟩ := list11 h
  have hs := binit_sp a0 a1 a2 a3 a4 a5 a6 a7 a8 a9 a10
  unfold resB
  show F_Book_init [pvD a0, pvD a1, pvD a2, pvD a3, pvD a4, pvD a5, pvD a6, pvD a7, pvD a8, pvD a9, pvD a10] = _
  cases hF : F_Book_init [pvD a0, pvD a1, pvD a2, pvD a3, pvD a4, pvD a5, pvD a6, pvD a7, pvD a8, pvD a9, pvD a10] with
  | ok d =>
    rw [hF] at hs
    obtain ⟨h1, h2⟩ := hs
    rw [h1, h2]
  | err c ns vs =>
    rw [hF] at hs
    obtain ⟨k, h1, h2, h3, h4⟩ := hs
    rw [h1, h2, h3, h4]
  | bad => rw [hF] at hs; exact hs.elim
end
section
theorem str_sg (z : Str) : Sg z.cps.toList = z := by
  cases z
  simp [Sg]
theorem rs_res {xs : List PV} {Q : D → Prop} {E : Str → List Str → List D → Prop} (q : badK xs = none → Q (bkD xs)) (e : ∀ k, badK xs = some k → E "BadBook" ["field"] [.str (nmL.getD k "")]) : Rs (resB xs) Q E := by
  unfold resB
  cases h : badK xs with
  | none => exact q h
  | some k => exact e k h
theorem res_of {xs : List PV} {r : Res D} (hs : Rs r (fun d => badK xs = none ∧ d = bkD xs) (ErB xs)) : r = resB xs := by
  unfold resB
  cases hF : r with
  | ok d =>
    rw [hF] at hs
    obtain ⟨h1, h2⟩ := hs
    rw [h1, h2]
  | err c ns vs =>
    rw [hF] at hs
    obtain ⟨k, h1, h2, h3, h4⟩ := hs
    rw [h1, h2, h3, h4]
  | bad => rw [hF] at hs; exact hs.elim
theorem names_eq : F_l_names [] = .ok (.lst (nmL.map D.str)) := Rs.eq (by
  refine rs_run ?_
  unfold Fb_l_names
  array_get_dec
  have e : [Sg [114, 111, 111, 109], Sg [104, 101, 105, 103, 104, 116], Sg [106, 111, 105, 110, 116], Sg [111, 118, 101, 114], Sg [107, 101, 101, 112], Sg [111, 114, 112, 104, 97, 110], Sg [119, 105, 100, 111, 119], Sg [119, 97, 105, 116], Sg [99, 111, 108, 117, 109, 110, 115], Sg [103, 117, 116, 116, 101, 114], Sg [102, 117, 108, 108]] = nmL := by decide +kernel
  rw [← e]
  rfl)
theorem lo_at {k : Nat} (h : k < 10) : (loL.map D.int)[k]? = some (.int (loL.getD k 0)) := by
  have hl : loL.length = 10 := rfl
  rw [List.getElem?_map, List.getElem?_eq_getElem (by omega), List.getD_eq_getElem?_getD, List.getElem?_eq_getElem (by omega)]
  rfl
theorem hi_at {k : Nat} (h : k < 10) : (hiL.map D.int)[k]? = some (.int (hiL.getD k 0)) := by
  have hl : hiL.length = 10 := rfl
  rw [List.getElem?_map, List.getElem?_eq_getElem (by omega), List.getD_eq_getElem?_getD, List.getElem?_eq_getElem (by omega)]
  rfl
theorem bounds_eq {k : Nat} (h : k < 10) : F_l_bounds [.int (k : Int)] = .ok (.tup [.int (loL.getD k 0), .int (hiL.getD k 0)]) := Rs.eq (by
  refine rs_run ?_
  unfold Fb_l_bounds
  have h1 : atI [D.int 1, .int 1, .int 0, .int 0, .int 0, .int 0, .int 0, .int 0, .int 1, .int 0] (k : Int) = some (.int (loL.getD k 0)) := atI_nat (lo_at h)
  have h2 : atI [D.int 2000, .int 2000, .int 2000, .int 2000, .int 2000, .int 2000, .int 2000, .int 2000, .int 4, .int 40] (k : Int) = some (.int (hiL.getD k 0)) := atI_nat (hi_at h)
  array_get_dec
  rfl)
theorem fits_eq {k : Nat} (p : PV) (h : k ≤ 10) : F_l_fits [.int (k : Int), pvD p] = .ok (.bl (fitP k p)) := Rs.eq (by
  refine rs_run ?_
  unfold Fb_l_fits
  show Ss (seqF _ _ [some (.int (k : Int)), some (pvD p)]) _ _ _ _ _
  unfold fitP
  by_cases h10 : k = 10
  · subst h10
    rw [if_pos rfl]
    sizeOf_list_dec
    exact Rs.of (isb_sp p) rfl
  · rw [if_neg h10]
    have hk : k < 10 := by omega
    refine ss_seq (ss_if (rs_T (rs_op (rs_var rfl (rs_c (rs_eqI (rs_asB ⟨fun z => ?_, fun _ => ?_⟩)))))))
    · have := of_decide_eq_true z
      omega
    refine ss_nx ?_
    refine ss_ret (rs_andVc (rs_call (rs_cons (rs_var rfl (rs_nil (Rs.of (lnum_sp p) (rs_asB ?_)))))))
    cases p with
    | i n =>
      refine ⟨fun _ => ?_, fun h => (by cases h)⟩
      unfold pvD
      array_get_dec
      refine Rs.of (bounds_eq hk) ?_
      array_get_dec
      refine Rs.of (bounds_eq hk) ?_
      array_get_dec
      unfold numOk
      by_cases h : loL.getD k 0 ≤ n
      · simp [h]
      · simp [h]
    | _ => exact ⟨fun h => (by cases h), fun _ => rfl⟩)
/-- what the law wants of eleven values -/
def dueD (xs : List PV) : D := match badK xs with
  | none => .lst (xs.map pvD)
  | some k => .tup [.str (Sg [110, 111]), .str (nmL.getD k ""), .bl true]
theorem nm_at {k : Nat} (h : k < 11) : (nmL.map D.str)[k]? = some (.str (nmL.getD k "")) := by
  have hl : nmL.length = 11 := rfl
  rw [List.getElem?_map, List.getElem?_eq_getElem (by omega), List.getD_eq_getElem?_getD, List.getElem?_eq_getElem (by omega)]
  rfl
theorem pv_at {xs : List PV} {k : Nat} (hl : xs.length = 11) (h : k < 11) : (xs.map pvD)[k]? = some (pvD (xs.getD k .n)) := by
  rw [List.getElem?_map, List.getElem?_eq_getElem (by omega), List.getD_eq_getElem?_getD, List.getElem?_eq_getElem (by omega)]
  rfl
theorem due_eq (xs : List PV) (hl : xs.length = 11) : F_l_due [.lst (xs.map pvD)] = .ok (dueD xs) := Rs.eq (by
  refine rs_run ?_
  unfold Fb_l_due
  show Ss (seqF _ _ [some (.lst (xs.map pvD)), none]) _ _ _ _ _
  refine ss_seq (ss_rng 11 (fun i r => ∃ x, r = [some (.lst (xs.map pvD)), x] ∧ ∀ j, j < i → fitP j (xs.getD j .n) = true) (by array_get_dec; rfl) (by decide) ⟨none, rfl, fun j hj => absurd hj (Nat.not_lt_zero j)⟩ ?_ ?_)
  · rintro i r hi ⟨x, rfl, hf⟩
    show Ss (Lp_l_due_1 [some (.lst (xs.map pvD)), some (.int (i : Int))]) _ _ _ _ _
    unfold Lp_l_due_1
    refine ss_if (rs_not (rs_T (rs_call (rs_cons (rs_var rfl (rs_cons (rs_op (rs_var rfl (rs_var rfl (rs_ixL (atI_nat (pv_at hl hi)) (rs_nil (Rs.of (fits_eq _ (by omega)) (rs_asB ?_)))))))))))))
    cases hv : fitP i (xs.getD i .n) with
    | false =>
      refine ⟨fun _ => ?_, fun h => (by cases h)⟩
      have hb : badK xs = some i := bad_of hi hv hf
      refine ss_ret (rs_tup (rs_cons (rs_c (rs_cons (rs_op (rs_call (rs_nil (Rs.of names_eq (rs_var rfl (rs_ixL (atI_nat (nm_at hi)) (rs_cons (rs_c (rs_nil ⟨Nat.le_of_ble_eq_true rfl, ?_⟩)))))))))))))
      unfold dueD
      rw [hb]
    | true =>
      refine ⟨fun h => (by cases h), fun _ => ss_nx ⟨_, rfl, fun j hj => ?_⟩⟩
      rcases Nat.lt_or_ge j i with h | h
      · exact hf j h
      · have : j = i := by omega
        rw [this]; exact hv
  · rintro r ⟨x, rfl, hf⟩
    have hb : badK xs = none := bad_none hf
    array_get_dec
    unfold dueD
    rw [hb])
theorem told_eq (xs : List PV) (hl : xs.length = 11) : F_l_told [bkD xs] = .ok (.lst (xs.map pvD)) := Rs.eq (by
  obtain ⟨a0, a1, a2, a3, a4, a5, a6, a7, a8, a9, a10, rfl⟩ := list11 hl
  refine rs_run ?_
  unfold Fb_l_told
  show Ss (seqF _ _ [some (.obj "Book" nm12 [pvD a0, pvD a1, pvD a2, pvD a3, pvD a4, pvD a5, pvD a6, pvD a7, pvD a8, pvD a9, pvD a10, .tup [pvD a0, pvD a1, pvD a2, pvD a3, pvD a4, pvD a5, pvD a6, pvD a7, pvD a8, pvD a9, pvD a10]]), none]) _ _ _ _ _
  array_get_dec
  rfl)
theorem book_eq (xs : List PV) (hl : xs.length = 11) : F_l_book [.lst (xs.map pvD)] = resB xs := res_of (by
  obtain ⟨a0, a1, a2, a3, a4, a5, a6, a7, a8, a9, a10, rfl⟩ := list11 hl
  refine rs_runT ?_
  unfold Fb_l_book
  show Ss (retF _ [some (.lst [pvD a0, pvD a1, pvD a2, pvD a3, pvD a4, pvD a5, pvD a6, pvD a7, pvD a8, pvD a9, pvD a10])]) _ _ _ _ _
  refine ss_ret (rs_mkG ?_)
  array_get_dec
  show Rs (F_Book_init (([a0, a1, a2, a3, a4, a5, a6, a7, a8, a9, a10] : List PV).map pvD)) _ _
  rw [binit _ hl]
  exact rs_res (fun h => ⟨h, rfl⟩) fun k h => ⟨k, h, rfl, rfl, rfl⟩)
theorem made_eq (xs : List PV) (hl : xs.length = 11) : F_l_made [.lst (xs.map pvD)] = .ok (dueD xs) := Rs.eq (by
  refine rs_run ?_
  unfold Fb_l_made
  show Ss (tryF _ _ _ _ [some (.lst (xs.map pvD)), none]) _ _ _ _ _
  refine ss_try (ss_ret (rs_call (rs_cons (rs_call (rs_cons (rs_var rfl (rs_nil ?_)))))))
  rw [book_eq xs hl]
  refine rs_res (fun h => rs_nil (Rs.of (told_eq xs hl) ?_)) fun k h => ⟨by decide, ?_⟩
  · unfold dueD
    rw [h]
  · refine ss_ret (rs_tup (rs_cons (rs_c (rs_cons (rs_xf rfl rfl (rs_cons (rs_andV ?_)))))))
    refine rs_isX rfl rfl (rs_asB (rs_andV (rs_isX rfl rfl (rs_asB (rs_notV (rs_isX rfl rfl ?_))))))
    array_get_dec
    unfold dueD
    rw [h]
    rfl)
theorem same_pv (n : Nat) (p : PV) : F_l_same (n + 2) [pvD p, pvD p] = .ok (.bl true) := by
  cases p with
  | i x => exact same_int _ _
  | b x => exact same_bl _ _
  | n => exact same_non _
  | s l => exact same_str _ _
  | t0 => exact same_tup (n + 1) [] (by decide) fun d hd => (by cases hd)
  | t1 => exact same_tup (n + 1) [.bl true] (by decide) fun d hd => (by rw [List.mem_singleton.mp hd]; exact same_bl _ _)
  | t2 => exact same_tup (n + 1) [.int 1] (by decide) fun d hd => (by rw [List.mem_singleton.mp hd]; exact same_int _ _)
theorem same_nm (n : Nat) (z : Str) : F_l_same (n + 1) [.str z, .str z] = .ok (.bl true) := by
  rw [← str_sg z]; exact same_str _ _
theorem same_xs (n : Nat) (xs : List PV) (hl : xs.length = 11) : F_l_same (n + 3) [.lst (xs.map pvD), .lst (xs.map pvD)] = .ok (.bl true) :=
  same_lst (n + 2) _ (by rw [List.length_map]; omega) fun d hd => by
    obtain ⟨p, _, rfl⟩ := List.mem_map.mp hd
    exact same_pv n p
theorem same_due (n : Nat) (xs : List PV) (hl : xs.length = 11) : F_l_same (n + 3) [dueD xs, dueD xs] = .ok (.bl true) := by
  unfold dueD
  split
  · exact same_xs n xs hl
  · refine same_tup (n + 2) _ (show 3 ≤ 10000 by decide) fun d hd => ?_
    simp only [List.mem_cons, List.not_mem_nil, or_false] at hd
    rcases hd with rfl | rfl | rfl
    · exact same_str _ _
    · exact same_nm _ _
    · exact same_bl _ _
end
section
theorem in_nm (z : Str) : inKt true (.str z) (.kt (nmL.map D.str)) = .ok (.bl (!decide (z ∈ nmL))) := by
  have e : inFlat (.str z) (nmL.map D.str) = some (decide (z ∈ nmL)) := by
    show some (L2.inV (V.str z) (nmL.map V.str)) = _
    congr 1
    unfold L2.inV
    rw [List.any_map]
    by_cases h : z ∈ nmL
    · rw [decide_eq_true h]
      exact List.any_eq_true.mpr ⟨z, h, by simp [eqV]⟩
    · rw [decide_eq_false h]
      rw [List.any_eq_false]
      intro y hy
      have : ¬ y = z := fun e => h (e ▸ hy)
      simp [eqV, this]
  unfold inKt
  dsimp only
  rw [e]
  rfl
def upd (xs : List PV) : List (Nat × PV) → List PV
  | [] => xs
  | q :: qs => upd (xs.set q.1 q.2) qs
theorem upd_len (qs : List (Nat × PV)) : ∀ xs : List PV, (upd xs qs).length = xs.length := by
  induction qs with
  | nil => intro xs; rfl
  | cons q qs ih => intro xs; rw [upd, ih, List.length_set]
theorem upd_snoc (q : Nat × PV) (qs : List (Nat × PV)) : ∀ xs : List PV, upd xs (qs ++ [q]) = (upd xs qs).set q.1 q.2 := by
  induction qs with
  | nil => intro xs; rfl
  | cons p qs ih => intro xs; rw [List.cons_append, upd, upd, ih]
theorem getK_at {κ : Type} [DecidableEq κ] : ∀ {ks : List κ} {vs : List D} {i : Nat} {x : κ} {d : D}, ks.Nodup → ks[i]? = some x → vs[i]? = some d → getK ks vs x = some d
  | [], _, _, _, _, _, h, _ => by simp at h
  | _ :: _, [], _, _, _, _, _, h => by simp at h
  | k :: ks, v :: vs, 0, x, d, _, h1, h2 => by
    rw [List.getElem?_cons_zero] at h1 h2
    cases h1; cases h2
    unfold getK
    rw [if_pos rfl]
  | k :: ks, v :: vs, i + 1, x, d, hn, h1, h2 => by
    rw [List.getElem?_cons_succ] at h1 h2
    unfold getK
    have hk : ¬ k = x := fun e => (List.nodup_cons.mp hn).1 (by rw [e]; exact List.mem_of_getElem? h1)
    rw [if_neg hk]
    exact getK_at (List.nodup_cons.mp hn).2 h1 h2
theorem zip_set {κ : Type} [DecidableEq κ] {x : κ} {d : D} : ∀ {ks : List κ} {vs : List D} {j : Nat}, ks.Nodup → ks.length = vs.length → ks[j]? = some x → List.zipWith (fun k v => if k = x then d else v) ks vs = vs.set j d
  | [], _, _, _, _, h => by simp at h
  | _ :: _, [], _, _, h, _ => by simp at h
  | k :: ks, v :: vs, 0, hn, hl, h => by
    rw [List.getElem?_cons_zero] at h
    have e : k = x := Option.some.inj h
    rw [List.zipWith_cons_cons, if_pos e, List.set_cons_zero]
    have h1 : x ∉ ks := by rw [← e]; exact (List.nodup_cons.mp hn).1
    have h2 : ks.length = vs.length := Nat.succ.inj hl
    have : ∀ {l : List κ} {m : List D}, x ∉ l → l.length = m.length → List.zipWith (fun k' v => if k' = x then d else v) l m = m := by
      intro l
      induction l with
      | nil => intro m _ h; cases m with | nil => rfl | cons _ _ => cases h
      | cons a l ih =>
        intro m hk h
        cases m with
        | nil => cases h
        | cons b m =>
          rw [List.zipWith_cons_cons, if_neg (fun e => hk (by rw [← e]; exact List.mem_cons_self)), ih (fun z => hk (List.mem_cons_of_mem _ z)) (Nat.succ.inj h)]
    rw [this h1 h2]
  | k :: ks, v :: vs, j + 1, hn, hl, h => by
    rw [List.getElem?_cons_succ] at h
    have hk : ¬ k = x := fun e => (List.nodup_cons.mp hn).1 (by rw [e]; exact List.mem_of_getElem? h)
    rw [List.zipWith_cons_cons, if_neg hk, List.set_cons_succ, zip_set (List.nodup_cons.mp hn).2 (Nat.succ.inj hl) h]
theorem nm_get {k : Nat} (h : k < 11) : nmL[k]? = some (nmL.getD k "") := by
  have hl : nmL.length = 11 := rfl
  rw [List.getD_eq_getElem?_getD, List.getElem?_eq_getElem (by omega)]
  rfl
theorem nm_inj {i j : Nat} (hi : i < 11) (hj : j < 11) (h : nmL.getD i "" = nmL.getD j "") : i = j := by
  have hn : nmL.Nodup := by decide +kernel
  have h1 := nm_get hi
  have h2 := nm_get hj
  rw [h] at h1
  exact (List.getElem?_inj (show i < nmL.length from hi) hn).mp (h1.trans h2.symm)
abbrev kwK (ks : List Str) : List Key := ks.map Sum.inr
abbrev kwN (qs : List (Nat × PV)) : List Str := qs.map fun q => nmL.getD q.1 ""
theorem kwK_nodup {ks : List Str} (h : ks.Nodup) : (kwK ks).Nodup := List.Pairwise.map (R := fun a b : Str => a ≠ b) Sum.inr (fun a b (hab : a ≠ b) e => hab (Sum.inr.inj e)) h
theorem kwN_nodup : ∀ {qs : List (Nat × PV)}, (∀ q ∈ qs, q.1 < 11) → (qs.map (·.1)).Nodup → (kwN qs).Nodup
  | [], _, _ => List.nodup_nil
  | q :: qs, h, hn => by
    rw [List.map_cons, List.nodup_cons] at hn
    show (nmL.getD q.1 "" :: kwN qs).Nodup
    rw [List.nodup_cons]
    refine ⟨fun hm => ?_, kwN_nodup (fun p hp => h p (List.mem_cons_of_mem _ hp)) hn.2⟩
    obtain ⟨p, hp, e⟩ := List.mem_map.mp hm
    exact hn.1 (List.mem_map.mpr ⟨p, hp, nm_inj (h p (List.mem_cons_of_mem _ hp)) (h q List.mem_cons_self) e⟩)
theorem keys_at {ks : List Str} {i : Nat} {d : D} (h : ((kwK ks).map keyOf)[i]? = some d) : ∃ z, ks[i]? = some z ∧ d = .str z := by
  rw [List.getElem?_map, List.getElem?_map] at h
  cases hz : ks[i]? with
  | none => rw [hz] at h; cases h
  | some z => rw [hz] at h; cases h; exact ⟨z, rfl, rfl⟩
theorem changed_ok (xs : List PV) (hl : xs.length = 11) (qs : List (Nat × PV)) (h11 : ∀ q ∈ qs, q.1 < 11) (nd : (qs.map (·.1)).Nodup) : F_Book_changed [bkD xs, .dk (kwK (kwN qs)) (qs.map fun q => pvD q.2)] = resB (upd xs qs) := res_of (by
  have hf : lookF nm12 (xs.map pvD ++ [.tup (xs.map pvD)]) "field_values" = some (.tup (xs.map pvD)) := by
    obtain ⟨a0, a1, a2, a3, a4, a5, a6, a7, a8, a9, a10, rfl⟩ := list11 hl
    rfl
  have hkn : (kwN qs).Nodup := kwN_nodup h11 nd
  refine rs_runT ?_
  unfold Fb_Book_changed
  show Ss (seqF _ _ [some (bkD xs), some (.dk (kwK (kwN qs)) (qs.map fun q => pvD q.2)), none, none]) _ _ _ _ _
  refine ss_seq (ss_for (fun _ z => ∃ x, z = [some (bkD xs), some (.dk (kwK (kwN qs)) (qs.map fun q => pvD q.2)), x, none]) (rs_it (rs_var rfl (Rs.of (a := (kwK (kwN qs)).map keyOf) rfl ⟨⟨none, rfl⟩, ?_, ?_⟩))))
  · rintro i d z hd ⟨x, rfl⟩
    obtain ⟨n, hn, rfl⟩ := keys_at hd
    refine ⟨_, rfl, ?_⟩
    show Ss (Lp_Book_changed_1 [some (bkD xs), some (.dk (kwK (kwN qs)) (qs.map fun q => pvD q.2)), some (.str n), none]) _ _ _ _ _
    unfold Lp_Book_changed_1
    have hm : n ∈ nmL := by
      obtain ⟨q, hq, rfl⟩ := List.mem_map.mp (List.mem_of_getElem? hn)
      exact List.mem_of_getElem? (nm_get (h11 q hq))
    refine ss_if (rs_T (rs_op (rs_var rfl (rs_c (Rs.of (in_nm n) (rs_asB ?_))))))
    rw [decide_eq_true hm]
    exact ⟨fun h => (by cases h), fun _ => ss_nx ⟨_, rfl⟩⟩
  rintro _ ⟨x, rfl⟩
  refine ss_seq (ss_set (rs_dictZ (as := nmL.map D.str) (bs := xs.map pvD) (ks := nmL) (rs_c ⟨rfl, rs_un (rs_var rfl (rs_fld hf rfl))⟩) rfl (by decide +kernel) (by rw [List.length_map, hl]; rfl) (by decide) ?_))
  show Ss (seqF _ _ [some (bkD xs), some (.dk (kwK (kwN qs)) (qs.map fun q => pvD q.2)), x, some (.dk (kwK nmL) (xs.map pvD))]) _ _ _ _ _
  refine ss_seq (ss_for (fun i z => ∃ x, z = [some (bkD xs), some (.dk (kwK (kwN qs)) (qs.map fun q => pvD q.2)), x, some (.dk (kwK nmL) ((upd xs (qs.take i)).map pvD))]) (rs_it (rs_var rfl (Rs.of (a := (kwK (kwN qs)).map keyOf) rfl ⟨⟨x, rfl⟩, ?_, ?_⟩))))
  · rintro i d z hd ⟨x, rfl⟩
    obtain ⟨n, hn, rfl⟩ := keys_at hd
    refine ⟨_, rfl, ?_⟩
    have hn0 := hn
    rw [List.getElem?_map] at hn
    cases hq : qs[i]? with
    | none => rw [hq] at hn; cases hn
    | some q =>
      rw [hq] at hn
      cases hn
      have q11 : q.1 < 11 := h11 q (List.mem_of_getElem? hq)
      show Ss (Lp_Book_changed_2 [some (bkD xs), some (.dk (kwK (kwN qs)) (qs.map fun q => pvD q.2)), some (.str (nmL.getD q.1 "")), some (.dk (kwK nmL) ((upd xs (qs.take i)).map pvD))]) _ _ _ _ _
      unfold Lp_Book_changed_2 Dx.putF
      have hg : getZ (.dk (kwK (kwN qs)) (qs.map fun q => pvD q.2)) (.str (nmL.getD q.1 "")) = .ok (pvD q.2) := by
        unfold getZ
        dsimp only [keyD]
        rw [getK_at (kwK_nodup hkn) (i := i) (by rw [List.getElem?_map, hn0]; rfl) (by rw [List.getElem?_map, hq]; rfl)]
      refine ss_lift (rs_op (rs_var rfl (rs_var rfl (Rs.of hg ?_))))
      refine ss_lift (Rs.of (a := (kwK nmL, (upd xs (qs.take i)).map pvD)) rfl (ss_lift (rs_var rfl (ss_lift (Rs.of (a := (Sum.inr (nmL.getD q.1 "") : Key)) rfl ?_)))))
      dsimp only
      rw [guardS_pos (by decide)]
      have hany : ((kwK nmL).any fun k => decide (k = Sum.inr (nmL.getD q.1 ""))) = true := List.any_eq_true.mpr ⟨_, List.mem_map_of_mem (List.mem_of_getElem? (nm_get q11)), decide_eq_true rfl⟩
      have hput : putV (kwK nmL) ((upd xs (qs.take i)).map pvD) (Sum.inr (nmL.getD q.1 "")) (pvD q.2) = (kwK nmL, (upd xs (qs.take (i + 1))).map pvD) := by
        unfold putV
        rw [if_pos hany, zip_set (j := q.1) (kwK_nodup (by decide +kernel)) (by rw [List.length_map, List.length_map, upd_len, hl]; rfl) (by rw [List.getElem?_map, nm_get q11]; rfl)]
        rw [List.take_add_one, hq]
        show _ = (_, (upd xs (qs.take i ++ [q])).map pvD)
        rw [upd_snoc, List.map_set]
      rw [hput]
      exact ⟨_, rfl⟩
  rintro _ ⟨x', rfl⟩
  have ht : qs.take ((kwK (kwN qs)).map keyOf).length = qs := List.take_of_length_le (by simp)
  rw [ht]
  refine ss_ret (rs_mkDD (rs_var rfl ⟨_, rfl, ?_⟩))
  rw [binit _ (by rw [upd_len, hl])]
  exact rs_res (fun h => ⟨h, rfl⟩) fun k h => ⟨k, h, rfl, rfl, rfl⟩)
theorem changed_no (xs : List PV) (ks : List Str) (es : List D) (i0 : Nat) (z : Str) (hz : ks[i0]? = some z) (hin : ∀ j n, j < i0 → ks[j]? = some n → n ∈ nmL) (hno : z ∉ nmL) : Rs (F_Book_changed [bkD xs, .dk (kwK ks) es]) (fun _ => False) (fun c ns vs => c = ("BadBook" : Str) ∧ ns = (["field"] : List Str) ∧ vs = [.str z]) := by
  refine rs_runT ?_
  unfold Fb_Book_changed
  show Ss (seqF _ _ [some (bkD xs), some (.dk (kwK ks) es), none, none]) _ _ _ _ _
  have hlt : i0 < ks.length := (List.getElem?_eq_some_iff.mp hz).1
  refine ss_seq (ss_for (fun i z => i ≤ i0 ∧ ∃ x, z = [some (bkD xs), some (.dk (kwK ks) es), x, none]) (rs_it (rs_var rfl (Rs.of (a := (kwK ks).map keyOf) rfl ⟨⟨Nat.zero_le _, none, rfl⟩, ?_, ?_⟩))))
  · rintro i d _ hd ⟨hi, x, rfl⟩
    obtain ⟨n, hn, rfl⟩ := keys_at hd
    refine ⟨_, rfl, ?_⟩
    show Ss (Lp_Book_changed_1 [some (bkD xs), some (.dk (kwK ks) es), some (.str n), none]) _ _ _ _ _
    unfold Lp_Book_changed_1
    refine ss_if (rs_T (rs_op (rs_var rfl (rs_c (Rs.of (in_nm n) (rs_asB ?_))))))
    by_cases h : i = i0
    · subst h
      rw [hz] at hn
      cases hn
      rw [decide_eq_false hno]
      exact ⟨fun _ => ss_raise (rs_cons (rs_var rfl (rs_nil ⟨rfl, rfl, rfl, rfl⟩))), fun h => (by cases h)⟩
    · rw [decide_eq_true (hin i n (by omega) hn)]
      exact ⟨fun h => (by cases h), fun _ => ss_nx ⟨by omega, _, rfl⟩⟩
  rintro _ ⟨h, _⟩
  simp only [List.length_map] at h
  omega
end
section
theorem mk1 {xs : List PV} (hl : xs.length = 11) (k : Nat) (hk : k < 11) (p : PV) : F_Book_changed [bkD xs, .dk (kwK (kwN [(k, p)])) [pvD p]] = resB (xs.set k p) :=
  changed_ok xs hl [(k, p)] (fun q hq => (by rw [List.mem_singleton.mp hq]; exact hk)) (by simp)
theorem rs_res2 {xs : List PV} : Rs (resB xs) (fun d => badK xs = none ∧ d = bkD xs) (ErB xs) := rs_res (fun h => ⟨h, rfl⟩) fun k h => ⟨k, h, rfl, rfl, rfl⟩
theorem one_changed (xs : List PV) (hl : xs.length = 11) (k : Nat) (hk : k ≤ 10) (p : PV) : F_l_one_changed [bkD xs, .int (k : Int), pvD p] = resB (xs.set k p) := res_of (by
  refine rs_runT ?_
  unfold Fb_l_one_changed
  show Ss (seqF _ _ [some (bkD xs), some (.int (k : Int)), some (pvD p)]) _ _ _ _ _
  refine ss_seq (ss_if (rs_T (rs_op (rs_var rfl (rs_c (rs_eqI (rs_asB ⟨fun z => ?_, fun z0 => ss_nx ?_⟩)))))))
  · have z := of_decide_eq_true z
    obtain rfl : k = 0 := by omega
    refine ss_ret (rs_methKW (rs_var rfl ⟨rfl, by decide +kernel, rs_cons (rs_var rfl (rs_nil ?_))⟩))
    rw [show F_Book_changed [bkD xs, .dk ((["room"] : List Str).map Sum.inr) [pvD p]] = resB (xs.set 0 p) from mk1 hl 0 (by omega) p]
    exact rs_res2
  have z0 := of_decide_eq_false z0
  refine ss_seq (ss_if (rs_T (rs_op (rs_var rfl (rs_c (rs_eqI (rs_asB ⟨fun z => ?_, fun z1 => ss_nx ?_⟩)))))))
  · have z := of_decide_eq_true z
    obtain rfl : k = 1 := by omega
    refine ss_ret (rs_methKW (rs_var rfl ⟨rfl, by decide +kernel, rs_cons (rs_var rfl (rs_nil ?_))⟩))
    rw [show F_Book_changed [bkD xs, .dk ((["height"] : List Str).map Sum.inr) [pvD p]] = resB (xs.set 1 p) from mk1 hl 1 (by omega) p]
    exact rs_res2
  have z1 := of_decide_eq_false z1
  refine ss_seq (ss_if (rs_T (rs_op (rs_var rfl (rs_c (rs_eqI (rs_asB ⟨fun z => ?_, fun z2 => ss_nx ?_⟩)))))))
  · have z := of_decide_eq_true z
    obtain rfl : k = 2 := by omega
    refine ss_ret (rs_methKW (rs_var rfl ⟨rfl, by decide +kernel, rs_cons (rs_var rfl (rs_nil ?_))⟩))
    rw [show F_Book_changed [bkD xs, .dk ((["joint"] : List Str).map Sum.inr) [pvD p]] = resB (xs.set 2 p) from mk1 hl 2 (by omega) p]
    exact rs_res2
  have z2 := of_decide_eq_false z2
  refine ss_seq (ss_if (rs_T (rs_op (rs_var rfl (rs_c (rs_eqI (rs_asB ⟨fun z => ?_, fun z3 => ss_nx ?_⟩)))))))
  · have z := of_decide_eq_true z
    obtain rfl : k = 3 := by omega
    refine ss_ret (rs_methKW (rs_var rfl ⟨rfl, by decide +kernel, rs_cons (rs_var rfl (rs_nil ?_))⟩))
    rw [show F_Book_changed [bkD xs, .dk ((["over"] : List Str).map Sum.inr) [pvD p]] = resB (xs.set 3 p) from mk1 hl 3 (by omega) p]
    exact rs_res2
  have z3 := of_decide_eq_false z3
  refine ss_seq (ss_if (rs_T (rs_op (rs_var rfl (rs_c (rs_eqI (rs_asB ⟨fun z => ?_, fun z4 => ss_nx ?_⟩)))))))
  · have z := of_decide_eq_true z
    obtain rfl : k = 4 := by omega
    refine ss_ret (rs_methKW (rs_var rfl ⟨rfl, by decide +kernel, rs_cons (rs_var rfl (rs_nil ?_))⟩))
    rw [show F_Book_changed [bkD xs, .dk ((["keep"] : List Str).map Sum.inr) [pvD p]] = resB (xs.set 4 p) from mk1 hl 4 (by omega) p]
    exact rs_res2
  have z4 := of_decide_eq_false z4
  refine ss_seq (ss_if (rs_T (rs_op (rs_var rfl (rs_c (rs_eqI (rs_asB ⟨fun z => ?_, fun z5 => ss_nx ?_⟩)))))))
  · have z := of_decide_eq_true z
    obtain rfl : k = 5 := by omega
    refine ss_ret (rs_methKW (rs_var rfl ⟨rfl, by decide +kernel, rs_cons (rs_var rfl (rs_nil ?_))⟩))
    rw [show F_Book_changed [bkD xs, .dk ((["orphan"] : List Str).map Sum.inr) [pvD p]] = resB (xs.set 5 p) from mk1 hl 5 (by omega) p]
    exact rs_res2
  have z5 := of_decide_eq_false z5
  refine ss_seq (ss_if (rs_T (rs_op (rs_var rfl (rs_c (rs_eqI (rs_asB ⟨fun z => ?_, fun z6 => ss_nx ?_⟩)))))))
  · have z := of_decide_eq_true z
    obtain rfl : k = 6 := by omega
    refine ss_ret (rs_methKW (rs_var rfl ⟨rfl, by decide +kernel, rs_cons (rs_var rfl (rs_nil ?_))⟩))
    rw [show F_Book_changed [bkD xs, .dk ((["widow"] : List Str).map Sum.inr) [pvD p]] = resB (xs.set 6 p) from mk1 hl 6 (by omega) p]
    exact rs_res2
  have z6 := of_decide_eq_false z6
  refine ss_seq (ss_if (rs_T (rs_op (rs_var rfl (rs_c (rs_eqI (rs_asB ⟨fun z => ?_, fun z7 => ss_nx ?_⟩)))))))
  · have z := of_decide_eq_true z
    obtain rfl : k = 7 := by omega
    refine ss_ret (rs_methKW (rs_var rfl ⟨rfl, by decide +kernel, rs_cons (rs_var rfl (rs_nil ?_))⟩))
    rw [show F_Book_changed [bkD xs, .dk ((["wait"] : List Str).map Sum.inr) [pvD p]] = resB (xs.set 7 p) from mk1 hl 7 (by omega) p]
    exact rs_res2
  have z7 := of_decide_eq_false z7
  refine ss_seq (ss_if (rs_T (rs_op (rs_var rfl (rs_c (rs_eqI (rs_asB ⟨fun z => ?_, fun z8 => ss_nx ?_⟩)))))))
  · have z := of_decide_eq_true z
    obtain rfl : k = 8 := by omega
    refine ss_ret (rs_methKW (rs_var rfl ⟨rfl, by decide +kernel, rs_cons (rs_var rfl (rs_nil ?_))⟩))
    rw [show F_Book_changed [bkD xs, .dk ((["columns"] : List Str).map Sum.inr) [pvD p]] = resB (xs.set 8 p) from mk1 hl 8 (by omega) p]
    exact rs_res2
  have z8 := of_decide_eq_false z8
  refine ss_seq (ss_if (rs_T (rs_op (rs_var rfl (rs_c (rs_eqI (rs_asB ⟨fun z => ?_, fun z9 => ss_nx ?_⟩)))))))
  · have z := of_decide_eq_true z
    obtain rfl : k = 9 := by omega
    refine ss_ret (rs_methKW (rs_var rfl ⟨rfl, by decide +kernel, rs_cons (rs_var rfl (rs_nil ?_))⟩))
    rw [show F_Book_changed [bkD xs, .dk ((["gutter"] : List Str).map Sum.inr) [pvD p]] = resB (xs.set 9 p) from mk1 hl 9 (by omega) p]
    exact rs_res2
  have z9 := of_decide_eq_false z9
  obtain rfl : k = 10 := by omega
  refine ss_ret (rs_methKW (rs_var rfl ⟨rfl, by decide +kernel, rs_cons (rs_var rfl (rs_nil ?_))⟩))
  rw [show F_Book_changed [bkD xs, .dk ((["full"] : List Str).map Sum.inr) [pvD p]] = resB (xs.set 10 p) from mk1 hl 10 (by omega) p]
  exact rs_res2)
def ixW : Nat → List Nat
  | 0 => [9, 0, 7]
  | 1 => [10, 3]
  | 2 => [8, 1, 4, 2]
  | 3 => [6, 5, 10]
  | _ => []
abbrev qsW (w : Nat) (vs : List PV) : List (Nat × PV) := (ixW w).map fun i => (i, vs.getD i .n)
theorem ixW_lt (w : Nat) : ∀ i ∈ ixW w, i < 11 := by
  unfold ixW
  split <;> decide
theorem ixW_nd (w : Nat) : (ixW w).Nodup := by
  unfold ixW
  split <;> decide
theorem mkW {xs : List PV} (hl : xs.length = 11) (w : Nat) (vs : List PV) : F_Book_changed [bkD xs, .dk (kwK (kwN (qsW w vs))) ((qsW w vs).map fun q => pvD q.2)] = resB (upd xs (qsW w vs)) :=
  changed_ok xs hl (qsW w vs) (fun q hq => by
    obtain ⟨i, hi, rfl⟩ := List.mem_map.mp hq
    exact ixW_lt w i hi) (by
    rw [List.map_map]
    show ((ixW w).map fun i => i).Nodup
    rw [List.map_id']
    exact ixW_nd w)
theorem rs_mkW {xs : List PV} (hl : xs.length = 11) (w : Nat) (vs : List PV) : Rs (F_Book_changed [bkD xs, .dk (kwK (kwN (qsW w vs))) ((qsW w vs).map fun q => pvD q.2)]) (fun d => badK (upd xs (qsW w vs)) = none ∧ d = bkD (upd xs (qsW w vs))) (ErB (upd xs (qsW w vs))) := by
  rw [mkW hl w vs]; exact rs_res2
theorem some_changed (xs vs : List PV) (hl : xs.length = 11) (hv : vs.length = 11) (w : Nat) (hw : w < 5) : F_l_some_changed [bkD xs, .int (w : Int), .lst (vs.map pvD)] = resB (upd xs (qsW w vs)) := res_of (by
  refine rs_runT ?_
  unfold Fb_l_some_changed
  have at' : ∀ k : Nat, k < 11 → ∀ {Q : D → Prop} {E : Str → List Str → List D → Prop}, Q (pvD (vs.getD k .n)) → Rs (ixD (.lst (vs.map pvD)) (.int (k : Int))) Q E := fun k hk {Q E} q => rs_ixL (atI_nat (pv_at hv hk)) q
  show Ss (seqF _ _ [some (bkD xs), some (.int (w : Int)), some (.lst (vs.map pvD))]) _ _ _ _ _
  refine ss_seq (ss_if (rs_T (rs_op (rs_var rfl (rs_c (rs_eqI (rs_asB ⟨fun z => ?_, fun z0 => ss_nx ?_⟩)))))))
  · have z := of_decide_eq_true z
    obtain rfl : w = 0 := by omega
    refine ss_ret (rs_methKW (rs_var rfl ⟨rfl, by decide +kernel, rs_cons (rs_op (rs_var rfl (rs_c (at' 9 (by decide) (rs_cons (rs_op (rs_var rfl (rs_c (at' 0 (by decide) (rs_cons (rs_op (rs_var rfl (rs_c (at' 7 (by decide) (rs_nil ?_)))))))))))))))⟩))
    exact rs_mkW hl 0 vs
  have z0 := of_decide_eq_false z0
  refine ss_seq (ss_if (rs_T (rs_op (rs_var rfl (rs_c (rs_eqI (rs_asB ⟨fun z => ?_, fun z1 => ss_nx ?_⟩)))))))
  · have z := of_decide_eq_true z
    obtain rfl : w = 1 := by omega
    refine ss_ret (rs_methKW (rs_var rfl ⟨rfl, by decide +kernel, rs_cons (rs_op (rs_var rfl (rs_c (at' 10 (by decide) (rs_cons (rs_op (rs_var rfl (rs_c (at' 3 (by decide) (rs_nil ?_))))))))))⟩))
    exact rs_mkW hl 1 vs
  have z1 := of_decide_eq_false z1
  refine ss_seq (ss_if (rs_T (rs_op (rs_var rfl (rs_c (rs_eqI (rs_asB ⟨fun z => ?_, fun z2 => ss_nx ?_⟩)))))))
  · have z := of_decide_eq_true z
    obtain rfl : w = 2 := by omega
    refine ss_ret (rs_methKW (rs_var rfl ⟨rfl, by decide +kernel, rs_cons (rs_op (rs_var rfl (rs_c (at' 8 (by decide) (rs_cons (rs_op (rs_var rfl (rs_c (at' 1 (by decide) (rs_cons (rs_op (rs_var rfl (rs_c (at' 4 (by decide) (rs_cons (rs_op (rs_var rfl (rs_c (at' 2 (by decide) (rs_nil ?_))))))))))))))))))))⟩))
    exact rs_mkW hl 2 vs
  have z2 := of_decide_eq_false z2
  refine ss_seq (ss_if (rs_T (rs_op (rs_var rfl (rs_c (rs_eqI (rs_asB ⟨fun z => ?_, fun z3 => ss_nx ?_⟩)))))))
  · have z := of_decide_eq_true z
    obtain rfl : w = 3 := by omega
    refine ss_ret (rs_methKW (rs_var rfl ⟨rfl, by decide +kernel, rs_cons (rs_op (rs_var rfl (rs_c (at' 6 (by decide) (rs_cons (rs_op (rs_var rfl (rs_c (at' 5 (by decide) (rs_cons (rs_op (rs_var rfl (rs_c (at' 10 (by decide) (rs_nil ?_)))))))))))))))⟩))
    exact rs_mkW hl 3 vs
  have z3 := of_decide_eq_false z3
  obtain rfl : w = 4 := by omega
  refine ss_ret (rs_methKW (rs_var rfl ⟨rfl, by decide +kernel, rs_nil ?_⟩))
  exact rs_mkW hl 4 vs)
end
section
theorem ixN_of {n k : Nat} (h : k < n) : ixN n (k : Int) = some k := by
  unfold ixN
  split
  · simp
    omega
  · omega
theorem some_due (xs vs : List PV) (hl : xs.length = 11) (hv : vs.length = 11) (w : Nat) (hw : w < 5) : F_l_some_due [.lst (xs.map pvD), .int (w : Int), .lst (vs.map pvD)] = .ok (dueD (upd xs (qsW w vs))) := Rs.eq (by
  refine rs_run ?_
  unfold Fb_l_some_due
  show Ss (seqF _ _ [some (.lst (xs.map pvD)), some (.int (w : Int)), some (.lst (vs.map pvD)), none, none]) _ _ _ _ _
  refine ss_seq (ss_cut (fun z => z = [some (.lst (xs.map pvD)), some (.int (w : Int)), some (.lst (vs.map pvD)), some (.lst (xs.map pvD)), none]) ?_ ?_)
  · array_get_dec
    rfl
  rintro _ rfl
  have hw1 : atI [D.lst [D.int 9, D.int 0, D.int 7], D.lst [D.int 10, D.int 3], D.lst [D.int 8, D.int 1, D.int 4, D.int 2], D.lst [D.int 6, D.int 5, D.int 10], D.lst []] (w : Int) = some (.lst ((ixW w).map fun i : Nat => D.int (i : Int))) := by
    refine atI_nat ?_
    have : w = 0 ∨ w = 1 ∨ w = 2 ∨ w = 3 ∨ w = 4 := by omega
    rcases this with rfl | rfl | rfl | rfl | rfl <;> rfl
  refine ss_seq (ss_for (fun i z => ∃ x, z = [some (.lst (xs.map pvD)), some (.int (w : Int)), some (.lst (vs.map pvD)), some (.lst ((upd xs ((qsW w vs).take i)).map pvD)), x]) ?_)
  · refine rs_it ?_
    array_get_dec
    refine ⟨⟨none, rfl⟩, ?_, ?_⟩
    · rintro i d z hd ⟨x, rfl⟩
      rw [List.getElem?_map] at hd
      cases hk : (ixW w)[i]? with
      | none => rw [hk] at hd; cases hd
      | some k =>
        rw [hk] at hd
        cases hd
        have k11 : k < 11 := ixW_lt w k (List.mem_of_getElem? hk)
        refine ⟨_, rfl, ?_⟩
        show Ss (Lp_l_some_due_1 [some (.lst (xs.map pvD)), some (.int (w : Int)), some (.lst (vs.map pvD)), some (.lst ((upd xs ((qsW w vs).take i)).map pvD)), some (.int (k : Int))]) _ _ _ _ _
        unfold Lp_l_some_due_1
        refine ss_sto (n := k) (k := (k : Int)) (ds := (upd xs ((qsW w vs).take i)).map pvD) (rs_op (rs_var rfl (rs_var rfl (rs_ixL (atI_nat (pv_at hv k11)) ⟨rfl, rs_var rfl ⟨rfl, ixN_of (by rw [List.length_map, upd_len, hl]; exact k11), ?_⟩⟩))))
        refine ⟨some (.int (k : Int)), ?_⟩
        have hq : (qsW w vs)[i]? = some (k, vs.getD k .n) := by rw [List.getElem?_map, hk]; rfl
        rw [List.take_add_one, hq]
        show (_ : Rho) = [some (.lst (xs.map pvD)), some (.int (w : Int)), some (.lst (vs.map pvD)), some (.lst ((upd xs ((qsW w vs).take i ++ [(k, vs.getD k .n)])).map pvD)), _]
        rw [upd_snoc, List.map_set]
        rfl
    · rintro z ⟨x, rfl⟩
      have ht : (qsW w vs).take ((ixW w).map fun i : Nat => D.int (i : Int)).length = qsW w vs := List.take_of_length_le (by simp)
      rw [ht]
      refine ss_ret (rs_call (rs_cons (rs_var rfl (rs_nil (Rs.of (due_eq _ (by rw [upd_len, hl])) rfl)))))
)
/-- what is told of a book that is asked for -/
theorem told_res {xs : List PV} (hl : xs.length = 11) {f : Rho → Res D} {bk v1 v2 v3 v4 v5 v6 : Option D} (hf : Rs (f [bk, v1, v2, v3, v4, v5, v6]) (fun d => badK xs = none ∧ d = bkD xs) (ErB xs)) {N B C : Rho → Prop} {R : D → Prop} {E : Rho → Str → List Str → List D → Prop}
    (q : ∀ x, N [bk, v1, v2, v3, v4, some (dueD xs), x]) : Ss (tryF isM_BadBook 6 (setF 5 (dCall F_l_told (dCons f dNil))) (setF 5 (dTup (dCons (dC (.str (Sg [110, 111]))) (dCons (dXf 6 "field") (dCons (dIsX isM_LaidError 6) dNil))))) [bk, v1, v2, v3, v4, v5, v6]) N R B C E := by
  refine ss_try (ss_set (rs_call (rs_cons (hf.impE (fun d h => ?_) fun c ns vs h => ?_))))
  · obtain ⟨h1, rfl⟩ := h
    refine rs_nil (Rs.of (told_eq xs hl) ?_)
    have : dueD xs = .lst (xs.map pvD) := by unfold dueD; rw [h1]
    rw [← this]
    exact q _
  · obtain ⟨k, h1, rfl, rfl, rfl⟩ := h
    refine ⟨by decide, ss_set (rs_tup (rs_cons (rs_c (rs_cons (rs_xf rfl rfl (rs_cons (rs_isX rfl rfl (rs_nil ⟨Nat.le_of_ble_eq_true rfl, ?_⟩))))))))⟩
    have e : dueD xs = .tup [.str (Sg [110, 111]), .str (nmL.getD k ""), .bl true] := by unfold dueD; rw [h1]
    have hq := q none
    rw [e] at hq
    exact hq
theorem rs_one {xs : List PV} {k : Nat} {p : PV} (hl : xs.length = 11) (hk : k ≤ 10) : Rs (F_l_one_changed [bkD xs, .int (k : Int), pvD p]) (fun d => badK (xs.set k p) = none ∧ d = bkD (xs.set k p)) (ErB (xs.set k p)) := by
  rw [one_changed xs hl k hk p]; exact rs_res2
theorem rs_some {xs vs : List PV} {w : Nat} (hl : xs.length = 11) (hv : vs.length = 11) (hw : w < 5) : Rs (F_l_some_changed [bkD xs, .int (w : Int), .lst (vs.map pvD)]) (fun d => badK (upd xs (qsW w vs)) = none ∧ d = bkD (upd xs (qsW w vs))) (ErB (upd xs (qsW w vs))) := by
  rw [some_changed xs vs hl hv w hw]; exact rs_res2
theorem changes_are (xs vs : List PV) (hl : xs.length = 11) (hv : vs.length = 11) (k w : Nat) (hk : k ≤ 10) (hw : w < 5) (rest : List D) : F_l_changes_are [bkD xs, .lst (xs.map pvD), .lst (.int (k : Int) :: .int (w : Int) :: rest), .lst (vs.map pvD)] = .ok (.bl true) := Rs.eq (by
  refine rs_run ?_
  unfold Fb_l_changes_are
  have p0 : atI (D.int (k : Int) :: .int (w : Int) :: rest) 0 = some (.int (k : Int)) := show atI _ ((0 : Nat) : Int) = _ from atI_nat rfl
  have p1 : atI (D.int (k : Int) :: .int (w : Int) :: rest) 1 = some (.int (w : Int)) := show atI _ ((1 : Nat) : Int) = _ from atI_nat rfl
  have pk : atI (vs.map pvD) (k : Int) = some (pvD (vs.getD k .n)) := atI_nat (pv_at hv (by omega))
  generalize hP : (D.int (k : Int) :: D.int (w : Int) :: rest) = P at p0 p1
  show Ss (seqF _ _ [some (bkD xs), some (.lst (xs.map pvD)), some (.lst P), some (.lst (vs.map pvD)), none, none, none]) _ _ _ _ _
  refine ss_seq (ss_cut (fun z => z = [some (bkD xs), some (.lst (xs.map pvD)), some (.lst P), some (.lst (vs.map pvD)), some (.lst (xs.map pvD)), none, none]) ?_ ?_)
  · array_get_dec
    rfl
  rintro _ rfl
  refine ss_seq (ss_cut (fun z => z = [some (bkD xs), some (.lst (xs.map pvD)), some (.lst P), some (.lst (vs.map pvD)), some (.lst ((xs.set k (vs.getD k .n)).map pvD)), none, none]) ?_ ?_)
  · refine ss_sto (n := k) (k := (k : Int)) (ds := xs.map pvD) ?_
    array_get_dec
    refine ⟨rfl, ?_⟩
    array_get_dec
    refine ⟨rfl, ixN_of (by rw [List.length_map, hl]; omega), ?_⟩
    rw [List.map_set]
    rfl
  rintro _ rfl
  have h1 : (xs.set k (vs.getD k .n)).length = 11 := by rw [List.length_set, hl]
  refine ss_seq (told_res (xs := xs.set k (vs.getD k .n)) h1 ?_ fun x => ?_)
  · refine rs_call (rs_cons (rs_var rfl (rs_cons ?_)))
    array_get_dec
    exact rs_one hl hk
  refine ss_seq (ss_if (rs_not (rs_T (rs_call (rs_cons (rs_var rfl (rs_cons (rs_call (rs_cons (rs_var rfl (rs_nil (Rs.of (due_eq _ h1) (rs_nil (Rs.of (same_due 5 _ h1) (rs_asB ⟨fun h => (by cases h), fun _ => ss_nx ?_⟩)))))))))))))))
  have h2 : (upd xs (qsW w vs)).length = 11 := by rw [upd_len, hl]
  refine ss_seq (told_res (xs := upd xs (qsW w vs)) h2 ?_ fun x => ?_)
  · refine rs_call (rs_cons (rs_var rfl (rs_cons ?_)))
    array_get_dec
    exact rs_some hl hv hw
  refine ss_ret (rs_andV (rs_call (rs_cons (rs_var rfl (rs_cons (rs_call (rs_cons (rs_var rfl (rs_cons ?_)))))))))
  array_get_dec
  refine Rs.of (some_due xs vs hl hv w hw) ?_
  array_get_dec
  refine Rs.of (same_due 5 _ h2) ?_
  array_get_dec
  refine Rs.of (told_eq xs hl) ?_
  array_get_dec
  refine Rs.of (same_xs 5 _ hl) ?_
  array_get_dec
  rfl)
end
section
/-- ten numbers and a bool -/
abbrev gv (ns : List Int) (b : Bool) : List PV := ns.map PV.i ++ [.b b]
abbrev gvL (ns : List Int) (b : Bool) : List D := ns.map D.int ++ [.bl b]
theorem gv_D (ns : List Int) (b : Bool) : (gv ns b).map pvD = gvL ns b := by
  simp [gv, gvL, pvD, List.map_append]
theorem gv_len {ns : List Int} (h : ns.length = 10) (b : Bool) : (gv ns b).length = 11 := by simp [gv, h]
def InB (ns : List Int) : Prop := ns.length = 10 ∧ ∀ k n, ns[k]? = some n → loL.getD k 0 ≤ n ∧ n ≤ hiL.getD k 0
theorem gv_ok {ns : List Int} (h : InB ns) (b : Bool) : badK (gv ns b) = none := bad_none fun j hj => by
  have hl := h.1
  unfold fitP
  by_cases h10 : j = 10
  · subst h10
    rw [if_pos rfl]
    show isBlP ((ns.map PV.i ++ [PV.b b]).getD 10 .n) = true
    rw [List.getD_eq_getElem?_getD, List.getElem?_append_right (by simp [hl])]
    simp [hl, isBlP]
  · rw [if_neg h10]
    have hj' : j < ns.length := by omega
    have e : (gv ns b).getD j .n = .i ns[j] := by
      show (ns.map PV.i ++ [PV.b b]).getD j .n = _
      rw [List.getD_eq_getElem?_getD, List.getElem?_append_left (by simp [hj']), List.getElem?_map, List.getElem?_eq_getElem hj']
      rfl
    have := h.2 j ns[j] (List.getElem?_eq_getElem hj')
    rw [e]
    unfold numOk
    show (decide (loL.getD j 0 ≤ ns[j]) && decide (ns[j] ≤ hiL.getD j 0)) = true
    rw [decide_eq_true this.1, decide_eq_true this.2]
    rfl
theorem py_g (b : Bool) : ∀ ns : List Int, toPyL (gvL ns b) = some (ns.map PyData.int ++ [.bool b])
  | [] => by simp [gvL, toPyL, toPy]
  | n :: ns => by
    have := py_g b ns
    show toPyL (D.int n :: gvL ns b) = _
    rw [toPyL, this]
    simp [toPy]
theorem lay_g (b : Bool) : ∀ ns : List Int, PyData.canLayAll0 (ns.map PyData.int ++ [.bool b]) = true ∧ PyData.depthAll (ns.map PyData.int ++ [.bool b]) = 0
  | [] => by simp [PyData.canLayAll0, PyData.canLay0, PyData.depthAll, PyData.depth]
  | n :: ns => by
    obtain ⟨h1, h2⟩ := lay_g b ns
    rw [List.map_cons, List.cons_append, PyData.canLayAll0, PyData.depthAll, h1, h2]
    simp [PyData.canLay0, PyData.depth]
theorem eqv_g (b c : Bool) : ∀ ns ms : List Int, ns.length = ms.length → PyData.eqvAll (ns.map PyData.int ++ [.bool b]) (ms.map PyData.int ++ [.bool c]) = decide (ns = ms ∧ b = c)
  | [], [], _ => by
    simp only [List.map_nil, List.nil_append, PyData.eqvAll, PyData.eqv]
    cases b <;> cases c <;> rfl
  | [], _ :: _, h => by cases h
  | _ :: _, [], h => by cases h
  | n :: ns, m :: ms, h => by
    rw [List.map_cons, List.map_cons, List.cons_append, List.cons_append, PyData.eqvAll, eqv_g b c ns ms (Nat.succ.inj h)]
    simp only [PyData.eqv]
    by_cases h1 : n = m <;> by_cases h2 : ns = ms <;> by_cases h3 : b = c <;> simp [h1, h2, h3]
theorem cd_gL : Cd (fun p : List Int × Bool => p.1.length = 10) (fun p => D.lst (gvL p.1 p.2)) 1 (fun p => PyData.list (p.1.map PyData.int ++ [.bool p.2])) := ⟨fun p _ => by rw [toPy, py_g]; rfl,
  fun p _ => ⟨by rw [PyData.canLay0]; exact (lay_g p.2 p.1).1, by rw [PyData.depth, (lay_g p.2 p.1).2]; omega⟩, fun p q hp hq => by
    rw [PyData.eqv, eqv_g _ _ _ _ (hp.trans hq.symm)]
    by_cases h1 : p.1 = q.1 <;> by_cases h2 : p.2 = q.2 <;> simp [h1, h2, Prod.ext_iff]⟩
theorem cd_gT : Cd (fun p : List Int × Bool => p.1.length = 10) (fun p => D.tup (gvL p.1 p.2)) 1 (fun p => PyData.tuple (p.1.map PyData.int ++ [.bool p.2])) := ⟨fun p _ => by rw [toPy, py_g]; rfl,
  fun p _ => ⟨by rw [PyData.canLay0]; exact (lay_g p.2 p.1).1, by rw [PyData.depth, (lay_g p.2 p.1).2]; omega⟩, fun p q hp hq => by
    rw [PyData.eqv, eqv_g _ _ _ _ (hp.trans hq.symm)]
    by_cases h1 : p.1 = q.1 <;> by_cases h2 : p.2 = q.2 <;> simp [h1, h2, Prod.ext_iff]⟩
theorem fld_fv (xs : List PV) (hl : xs.length = 11) : lookF nm12 (xs.map pvD ++ [.tup (xs.map pvD)]) "field_values" = some (.tup (xs.map pvD)) := by
  obtain ⟨a0, a1, a2, a3, a4, a5, a6, a7, a8, a9, a10, rfl⟩ := list11 hl
  rfl
theorem rs_isBk {xs : List PV} {Q : D → Prop} {E : Str → List Str → List D → Prop} (q : Q (.bl true)) : Rs (isiO "Book" (bkD xs)) Q E := by
  unfold isiO
  rw [if_pos (by unfold bkD isCls; exact decide_eq_true rfl)]
  exact q
theorem bk_eq {ns ms : List Int} (h1 : ns.length = 10) (h2 : ms.length = 10) (b c : Bool) : F_Book_eq [bkD (gv ns b), bkD (gv ms c)] = .ok (.bl (decide ((ns, b) = (ms, c)))) := Rs.eq (by
  refine rs_run ?_
  unfold Fb_Book_eq
  show Ss (retF _ [some (bkD (gv ns b)), some (bkD (gv ms c))]) _ _ _ _ _
  have e : ∀ {ns : List Int} {b : Bool}, D.tup ((gv ns b).map pvD) = D.tup (gvL ns b) := by intro ns b; rw [gv_D]
  refine ss_ret (rs_andV (rs_un (rs_var rfl (rs_isBk (rs_asB ?_)))))
  refine rs_op (rs_un (rs_var rfl (rs_fld (fld_fv _ (gv_len h1 b)) (rs_un (rs_var rfl (rs_fld (fld_fv _ (gv_len h2 c)) ?_))))))
  rw [e, e]
  exact rs_eqC cd_gT (by decide) (a := (ns, b)) (b := (ms, c)) h1 h2 rfl rfl)
theorem bk_lst (xs ys : List PV) : F_Book_eq [bkD xs, .lst (ys.map pvD)] = .ok (.bl false) := Rs.eq (by
  refine rs_run ?_
  unfold Fb_Book_eq
  show Ss (retF _ [some (bkD xs), some (.lst (ys.map pvD))]) _ _ _ _ _
  exact ss_ret (rs_andVc (rs_un (rs_var rfl (Rs.of (a := .bl false) rfl (rs_asB ⟨fun z => (by cases z), fun _ => rfl⟩))))))
theorem bk_tup (xs ys : List PV) : F_Book_eq [bkD xs, .tup (ys.map pvD)] = .ok (.bl false) := Rs.eq (by
  refine rs_run ?_
  unfold Fb_Book_eq
  show Ss (retF _ [some (bkD xs), some (.tup (ys.map pvD))]) _ _ _ _ _
  exact ss_ret (rs_andVc (rs_un (rs_var rfl (Rs.of (a := .bl false) rfl (rs_asB ⟨fun z => (by cases z), fun _ => rfl⟩))))))
def oddL (k : Nat) : List PV := if k = 10 then [.i 0, .i 1, .n, .s [84, 114, 117, 101], .t1, .i (-1), .i 2, .s [], .t0]
  else [.i (loL.getD k 0 - 1), .i (hiL.getD k 0 + 1), .b true, .b false, .n, .s [49], .t2, .i (-2001), .i 1000000000000]
theorem odd_len (k : Nat) : (oddL k).length = 9 := by unfold oddL; split <;> rfl
theorem rs_pow12 {Q : D → Prop} {E : Str → List Str → List D → Prop} (q : Q (.int 1000000000000)) : Rs (powD (.int 10) (.int 12)) Q E := rs_guard (by decide) q
theorem odd_at {k p : Nat} (hp : p < 9) {ds : List D} (h : ds = (oddL k).map pvD) : atI ds (p : Int) = some (pvD ((oddL k).getD p .n)) := by
  subst h
  refine atI_nat ?_
  have := odd_len k
  rw [List.getElem?_map, List.getElem?_eq_getElem (by omega), List.getD_eq_getElem?_getD, List.getElem?_eq_getElem (by omega)]
  rfl
theorem odd_eq {k p : Nat} (hk : k ≤ 10) (hp : p < 9) : F_l_odd [.int (k : Int), .int (p : Int)] = .ok (pvD ((oddL k).getD p .n)) := Rs.eq (by
  refine rs_run ?_
  unfold Fb_l_odd
  show Ss (seqF _ _ [some (.int (k : Int)), some (.int (p : Int)), none, none]) _ _ _ _ _
  refine ss_seq (ss_if (rs_T (rs_op (rs_var rfl (rs_c (rs_eqI (rs_asB ⟨fun z => ?_, fun z => ss_nx ?_⟩)))))))
  · have z := of_decide_eq_true z
    obtain rfl : k = 10 := by omega
    refine ss_ret (rs_op ?_)
    array_get_dec
    exact rs_ixL (odd_at (k := 10) hp rfl) rfl
  · have z := of_decide_eq_false z
    have hk' : k < 10 := by omega
    refine ss_seq (ss_cut (fun r => r = [some (.int (k : Int)), some (.int (p : Int)), some (.int (loL.getD k 0)), some (.int (hiL.getD k 0))]) ?_ ?_)
    · exact ss_asg (rs_call (rs_cons (rs_var rfl (rs_nil (Rs.of (bounds_eq hk') ⟨_, rfl, rfl⟩)))))
    rintro _ rfl
    refine ss_ret (rs_op ?_)
    array_get_dec
    refine rs_pow12 ?_
    array_get_dec
    refine rs_ixL (odd_at (k := k) hp ?_) rfl
    unfold oddL
    rw [if_neg (by omega)]
    rfl)
end
section
def vlim : List Int := [5, 2001, 5, 2001, 5, 2001, 5, 2001, 5, 2001, 5, 2001, 5, 2001, 5, 2001, 5, 2001, 5, 2001, 2]
theorem vlim_e {k : Nat} (h : k < 10) : vlim[2 * k]? = some 5 ∧ vlim[2 * k + 1]? = some 2001 := by
  have : k = 0 ∨ k = 1 ∨ k = 2 ∨ k = 3 ∨ k = 4 ∨ k = 5 ∨ k = 6 ∨ k = 7 ∨ k = 8 ∨ k = 9 := by omega
  rcases this with rfl | rfl | rfl | rfl | rfl | rfl | rfl | rfl | rfl | rfl <;> exact ⟨rfl, rfl⟩
theorem lohi {k : Nat} (h : k < 10) : 0 ≤ loL.getD k 0 ∧ loL.getD k 0 ≤ hiL.getD k 0 ∧ hiL.getD k 0 ≤ 2000 := by
  have : k = 0 ∨ k = 1 ∨ k = 2 ∨ k = 3 ∨ k = 4 ∨ k = 5 ∨ k = 6 ∨ k = 7 ∨ k = 8 ∨ k = 9 := by omega
  rcases this with rfl | rfl | rfl | rfl | rfl | rfl | rfl | rfl | rfl | rfl <;> decide
theorem values_sp {vs : List Int} (h : Fit vs vlim) : Rs (F_l_values [iL vs]) (fun d => ∃ ns b, InB ns ∧ d = .lst (gvL ns b)) nE := by
  refine rs_run ?_
  unfold Fb_l_values
  show Ss (seqF _ _ [some (iL vs), none, none, none, none, none]) _ _ _ _ _
  refine ss_seq (ss_cut (fun z => z = [some (iL vs), some (.lst (([] : List Int).map D.int)), none, none, none, none]) ?_ ?_)
  · array_get_dec
    rfl
  rintro _ rfl
  refine ss_seq (ss_rng 10 (fun i r => ∃ (ns : List Int) (x a b c : Option D), r = [some (iL vs), some (.lst (ns.map D.int)), x, a, b, c] ∧ ns.length = i ∧ ∀ (k : Nat) (n : Int), ns[k]? = some n → loL.getD k 0 ≤ n ∧ n ≤ hiL.getD k 0) (by array_get_dec; rfl) (by decide) ⟨[], none, none, none, none, rfl, rfl, fun k n z => by simp at z⟩ ?_ ?_)
  · rintro i r hi ⟨ns, x, a, b, c, rfl, hl, hb⟩
    show Ss (Lp_l_values_1 [some (iL vs), some (.lst (ns.map D.int)), some (.int (i : Int)), a, b, c]) _ _ _ _ _
    unfold Lp_l_values_1
    obtain ⟨l1, l2, l3⟩ := lohi hi
    have hbd := bounds_eq hi
    have hx := vlim_e hi
    have hq : ∀ v : Int, loL.getD i 0 ≤ v → v ≤ hiL.getD i 0 → ∀ (k : Nat) (n : Int), (ns ++ [v])[k]? = some n → loL.getD k 0 ≤ n ∧ n ≤ hiL.getD k 0 := by
      intro v h1 h2 k n hk
      rcases Nat.lt_or_ge k ns.length with z | z
      · rw [List.getElem?_append_left z] at hk
        exact hb k n hk
      · rw [List.getElem?_append_right z] at hk
        have : k = i := by
          have := (List.getElem?_eq_some_iff.mp hk).1
          simp at this
          omega
        subst this
        rw [show k - ns.length = 0 by omega] at hk
        cases hk
        exact ⟨h1, h2⟩
    generalize loL.getD i 0 = lo at l1 l2 hbd hq
    generalize hiL.getD i 0 = hi' at l2 l3 hbd hq
    refine ss_seq (ss_cut (fun z => z = [some (iL vs), some (.lst (ns.map D.int)), some (.int (i : Int)), some (.int lo), some (.int hi'), c]) ?_ ?_)
    · refine ss_asg (rs_call (rs_cons (rs_var rfl (rs_nil (Rs.of hbd ⟨_, rfl, rfl⟩)))))
    rintro _ rfl
    refine ss_seq (ss_cut (fun z => ∃ v : Int, z = [some (iL vs), some (.lst (ns.map D.int)), some (.int (i : Int)), some (.int lo), some (.int hi'), some (.int v)] ∧ lo ≤ v ∧ v ≤ hi') ?_ ?_)
    · array_get_dec
      refine ix_row h hx.2 (by omega) fun w _ h0 h1 => ?_
      array_get_dec
      refine ⟨_, rfl, ?_, ?_⟩
      · have := Int.emod_nonneg w (show hi' - lo + 1 ≠ 0 by omega)
        omega
      · have := Int.emod_lt_of_pos w (show 0 < hi' - lo + 1 by omega)
        omega
    rintro _ ⟨v, rfl, v1, v2⟩
    refine ss_seq (ss_cut (fun z => ∃ v : Int, z = [some (iL vs), some (.lst (ns.map D.int)), some (.int (i : Int)), some (.int lo), some (.int hi'), some (.int v)] ∧ lo ≤ v ∧ v ≤ hi') ?_ ?_)
    · refine ss_if (rs_T (rs_op (rs_op (rs_var rfl (rs_op (rs_c (rs_var rfl (rs_mul (Or.inl (Dx.small_of (i := 2) (by decide) (by decide))) (ix_row h hx.1 (by omega) fun w _ h0 h1 => rs_c (rs_eqI (rs_asB ⟨fun _ => ?_, fun _ => ss_nx ⟨v, rfl, v1, v2⟩⟩)))))))))))
      array_get_dec
      exact ⟨lo, rfl, Int.le_refl _, l2⟩
    rintro _ ⟨v, rfl, v1, v2⟩
    refine ss_seq (ss_cut (fun z => ∃ v : Int, z = [some (iL vs), some (.lst (ns.map D.int)), some (.int (i : Int)), some (.int lo), some (.int hi'), some (.int v)] ∧ lo ≤ v ∧ v ≤ hi') ?_ ?_)
    · refine ss_if (rs_T (rs_op (rs_op (rs_var rfl (rs_op (rs_c (rs_var rfl (rs_mul (Or.inl (Dx.small_of (i := 2) (by decide) (by decide))) (ix_row h hx.1 (by omega) fun w _ h0 h1 => rs_c (rs_eqI (rs_asB ⟨fun _ => ?_, fun _ => ss_nx ⟨v, rfl, v1, v2⟩⟩)))))))))))
      array_get_dec
      exact ⟨hi', rfl, l2, Int.le_refl _⟩
    rintro _ ⟨v, rfl, v1, v2⟩
    refine ss_app (ds := ns.map D.int) rfl (rs_var rfl ⟨?_, ?_⟩)
    · refine Nat.lt_of_lt_of_le (m := 100000) ?_ Dx.sz5
      rw [List.length_map]
      omega
    · exact ⟨ns ++ [v], some (.int (i : Int)), some (.int lo), some (.int hi'), some (.int v), by rw [List.map_append]; rfl, by simp [hl], hq v v1 v2⟩
  · rintro r ⟨ns, x, a, b, c, rfl, hl, hb⟩
    array_get_dec
    refine ix_row h (k := 20) (l := 2) rfl rfl fun w _ h0 h1 => ?_
    array_get_dec
    exact ⟨ns, _, ⟨hl, hb⟩, rfl⟩
def stL : List Str := ["zoom", "zoom", "spread", "rooms", "zoom"]
theorem rs_strange {xs : List PV} {ks : List Str} {es : List D} {Q : D → Prop} {E : Str → List Str → List D → Prop} (i0 : Nat) (z : Str) (hz : ks[i0]? = some z) (hin : ∀ n ∈ ks.take i0, n ∈ nmL) (hno : z ∉ nmL) (q : E "BadBook" ["field"] [.str z]) : Rs (F_Book_changed [bkD xs, .dk (ks.map Sum.inr) es]) Q E :=
  (changed_no xs ks es i0 z hz (fun j n hj hn => hin n (by
    refine List.mem_of_getElem? (i := j) ?_
    rw [List.getElem?_take]
    rw [if_pos hj]
    exact hn)) hno).impE (fun _ h => h.elim) fun c ns vs ⟨h1, h2, h3⟩ => by subst h1; subst h2; subst h3; exact q
theorem ss_no {t : Rho → Res Bool} {F K : Rho → SR} {r : Rho} {N B C : Rho → Prop} {R : D → Prop} {E : Rho → Str → List Str → List D → Prop} (h : Rs (t r) (fun b => b = false) (E r)) (q : Ss (K r) N R B C E) : Ss (ifF t F K r) N R B C E :=
  ss_if (h.impE (fun b hb => ⟨fun z => (by rw [hb] at z; cases z), fun _ => q⟩) fun _ _ _ z => z)
theorem ss_ja {t : Rho → Res Bool} {F K : Rho → SR} {r : Rho} {N B C : Rho → Prop} {R : D → Prop} {E : Rho → Str → List Str → List D → Prop} (h : Rs (t r) (fun b => b = true) (E r)) (q : Ss (F r) N R B C E) : Ss (ifF t F K r) N R B C E :=
  ss_if (h.impE (fun b hb => ⟨fun _ => q, fun z => (by rw [hb] at z; cases z)⟩) fun _ _ _ z => z)
theorem strange_eq (xs : List PV) (w : Nat) (hw : w < 5) : F_l_strange [bkD xs, .int (w : Int)] = .ok (.str (stL.getD w "")) := Rs.eq (by
  refine rs_run ?_
  unfold Fb_l_strange
  have : w = 0 ∨ w = 1 ∨ w = 2 ∨ w = 3 ∨ w = 4 := by omega
  rcases this with rfl | rfl | rfl | rfl | rfl
  · refine ss_seq (ss_try ?_)
    refine ss_seq (ss_ja (by array_get_dec; rfl) (ss_drop (rs_methKW (rs_var rfl ⟨rfl, by decide +kernel, ?_⟩))))
    array_get_dec
    exact rs_strange 0 "zoom" rfl (by decide +kernel) (by decide +kernel) ⟨by decide, ss_ret (rs_xf rfl rfl rfl)⟩
  · refine ss_seq (ss_try ?_)
    refine ss_seq (ss_no (by array_get_dec; rfl) (ss_nx ?_))
    refine ss_seq (ss_ja (by array_get_dec; rfl) (ss_drop (rs_methKW (rs_var rfl ⟨rfl, by decide +kernel, ?_⟩))))
    array_get_dec
    exact rs_strange 1 "zoom" rfl (by decide +kernel) (by decide +kernel) ⟨by decide, ss_ret (rs_xf rfl rfl rfl)⟩
  · refine ss_seq (ss_try ?_)
    refine ss_seq (ss_no (by array_get_dec; rfl) (ss_nx ?_))
    refine ss_seq (ss_no (by array_get_dec; rfl) (ss_nx ?_))
    refine ss_seq (ss_ja (by array_get_dec; rfl) (ss_drop (rs_methKW (rs_var rfl ⟨rfl, by decide +kernel, ?_⟩))))
    array_get_dec
    exact rs_strange 0 "spread" rfl (by decide +kernel) (by decide +kernel) ⟨by decide, ss_ret (rs_xf rfl rfl rfl)⟩
  · refine ss_seq (ss_try ?_)
    refine ss_seq (ss_no (by array_get_dec; rfl) (ss_nx ?_))
    refine ss_seq (ss_no (by array_get_dec; rfl) (ss_nx ?_))
    refine ss_seq (ss_no (by array_get_dec; rfl) (ss_nx ?_))
    refine ss_seq (ss_ja (by array_get_dec; rfl) (ss_drop (rs_methKW (rs_var rfl ⟨rfl, by decide +kernel, ?_⟩))))
    array_get_dec
    exact rs_strange 0 "rooms" rfl (by decide +kernel) (by decide +kernel) ⟨by decide, ss_ret (rs_xf rfl rfl rfl)⟩
  · refine ss_seq (ss_try ?_)
    refine ss_seq (ss_no (by array_get_dec; rfl) (ss_nx ?_))
    refine ss_seq (ss_no (by array_get_dec; rfl) (ss_nx ?_))
    refine ss_seq (ss_no (by array_get_dec; rfl) (ss_nx ?_))
    refine ss_seq (ss_no (by array_get_dec; rfl) (ss_nx ?_))
    refine ss_ja (by array_get_dec; rfl) (ss_drop (rs_methKW (rs_var rfl ⟨rfl, by decide +kernel, ?_⟩)))
    array_get_dec
    exact rs_strange 2 "zoom" rfl (by decide +kernel) (by decide +kernel) ⟨by decide, ss_ret (rs_xf rfl rfl rfl)⟩)
end
section
theorem rs_lenK {ds : List D} {Q : D → Prop} {E : Str → List Str → List D → Prop} (q : Q (.int ds.length)) : Rs (g1 lenD [.kt ds]) Q E := q
theorem rs_ixK {ds : List D} {i : Int} {d : D} {Q : D → Prop} {E : Str → List Str → List D → Prop} (h : atI ds i = some d) (q : Q d) : Rs (ixD (.kt ds) (.int i)) Q E := by
  show Rs (match atI ds i with | some d => Res.ok d | none => Res.bad) Q E
  rw [h]; exact q
theorem same_kt (n : Nat) (ds : List D) (hl : ds.length ≤ 10000) (h : ∀ d ∈ ds, F_l_same n [d, d] = .ok (.bl true)) : F_l_same (n + 1) [.kt ds, .tup ds] = .ok (.bl true) := Rs.eq (by
  refine rs_run ?_
  unfold Fb_l_same
  have isk : ∀ {T : String} {b : Bool} {Q : D → Prop} {E : Str → List Str → List D → Prop}, kitB "tuple" T = some b → Q (.bl b) → Rs (isiD T (.kt ds)) Q E := fun h q => rs_isi rfl h q
  refine ss_seq (ss_cut (fun z => z = [some (.kt ds), some (.tup ds), none]) (by sizeOf_list_dec; rfl) ?_)
  rintro _ rfl
  refine ss_seq (ss_cut (fun z => z = [some (.kt ds), some (.tup ds), none]) (by sizeOf_list_dec; rfl) ?_)
  rintro _ rfl
  refine ss_seq (ss_cut (fun z => z = [some (.kt ds), some (.tup ds), none]) (by sizeOf_list_dec; rfl) ?_)
  rintro _ rfl
  refine ss_seq (ss_cut (fun z => z = [some (.kt ds), some (.tup ds), none]) (by sizeOf_list_dec; rfl) ?_)
  rintro _ rfl
  refine ss_seq (ss_cut (fun z => z = [some (.kt ds), some (.tup ds), none]) ?_ ?_)
  · array_get_dec
    refine isk rfl ?_
    array_get_dec
    exact ⟨fun z => (by cases z), fun _ => rfl⟩
  rintro _ rfl
  refine ss_seq (ss_cut (fun z => z = [some (.kt ds), some (.tup ds), none]) ?_ ?_)
  · refine ss_if (rs_andc (rs_T (rs_un (rs_var rfl (rs_isi_tup_list (rs_asB ⟨fun z => (by cases z), fun _ => ?_⟩))))))
    exact ⟨fun z => (by cases z), fun _ => rfl⟩
  rintro _ rfl
  array_get_dec
  refine ⟨fun _ => ?_, fun z => (by cases z)⟩
  refine ss_seq (ss_cut (fun z => z = [some (.kt ds), some (.tup ds), none]) ?_ ?_)
  · array_get_dec
    refine rs_lenK ?_
    array_get_dec
    refine ⟨fun z => (by simp at z), fun _ => rfl⟩
  rintro _ rfl
  array_get_dec
  refine ss_rng ds.length (fun i r => ∃ x, r = [some (.kt ds), some (.tup ds), x]) (by array_get_dec; rfl) (by omega) ⟨none, rfl⟩ ?_ ?_
  · rintro i r hi ⟨x, rfl⟩
    show Ss (Lp_l_same_1 (F_l_same n) [some (.kt ds), some (.tup ds), some (.int (i : Int))]) _ _ _ _ _
    unfold Lp_l_same_1
    array_get_dec
    refine rs_ixK (atI_nat (List.getElem?_eq_getElem hi)) ?_
    array_get_dec
    refine rs_ixT (atI_nat (List.getElem?_eq_getElem hi)) ?_
    array_get_dec
    refine Rs.of (h _ (List.getElem_mem hi)) ?_
    sizeOf_list_dec
    exact ⟨_, rfl⟩
  · rintro r ⟨x, rfl⟩
    array_get_dec
    rfl)
theorem gv_inj {as cs : List Int} {p q : Bool} (h1 : as.length = 10) (h2 : cs.length = 10) : gv as p = gv cs q ↔ (as, p) = (cs, q) := by
  constructor
  · intro h
    have := List.append_inj h (by simp [h1, h2])
    obtain ⟨ha, hb⟩ := this
    have hb : p = q := by
      have := List.head_eq_of_cons_eq hb
      exact PV.b.inj this
    have ha : as = cs := List.map_inj_right (fun a b e => PV.i.inj e) |>.mp ha
    rw [ha, hb]
  · intro h
    obtain ⟨rfl, rfl⟩ := Prod.mk.inj h
    rfl
theorem gv_lt {ns : List Int} {k : Nat} (h : k < ns.length) (b : Bool) : (gv ns b).getD k .n = .i (ns.getD k 0) := by
  show (ns.map PV.i ++ [PV.b b]).getD k .n = _
  rw [List.getD_eq_getElem?_getD, List.getElem?_append_left (by simp [h]), List.getElem?_map, List.getD_eq_getElem?_getD, List.getElem?_eq_getElem h]
  rfl
theorem gv_10 {ns : List Int} (h : ns.length = 10) (b : Bool) : (gv ns b).getD 10 .n = .b b := by
  show (ns.map PV.i ++ [PV.b b]).getD 10 .n = _
  rw [List.getD_eq_getElem?_getD, List.getElem?_append_right (by simp [h])]
  simp [h]
theorem eq_pv {as cs : List Int} (p q : Bool) (h1 : as.length = 10) (h2 : cs.length = 10) {k : Nat} (hk : k ≤ 10) : eqD (pvD ((gv as p).getD k .n)) (pvD ((gv cs q).getD k .n)) = .ok (.bl (decide ((gv as p).getD k .n = (gv cs q).getD k .n))) := by
  by_cases h : k < 10
  · rw [gv_lt (by omega), gv_lt (by omega)]
    refine Rs.eq (rs_eqI ?_)
    by_cases e : as.getD k 0 = cs.getD k 0 <;> simp [e]
  · obtain rfl : k = 10 := by omega
    rw [gv_10 h1, gv_10 h2]
    refine Rs.eq (rs_eqB ?_)
    cases p <;> cases q <;> rfl
theorem set_gv {as cs : List Int} (p q : Bool) (h1 : InB as) (h2 : InB cs) {k : Nat} (hk : k ≤ 10) : ∃ ns b, InB ns ∧ (gv as p).set k ((gv cs q).getD k .n) = gv ns b := by
  by_cases h : k < 10
  · refine ⟨as.set k (cs.getD k 0), p, ⟨by rw [List.length_set]; exact h1.1, fun j n hj => ?_⟩, ?_⟩
    · have l1 := h1.1
      have l2 := h2.1
      by_cases e : j = k
      · subst e
        rw [List.getElem?_set_self (by omega)] at hj
        cases hj
        refine h2.2 j _ ?_
        rw [List.getD_eq_getElem?_getD, List.getElem?_eq_getElem (by omega)]
        rfl
      · rw [List.getElem?_set_ne (fun z => e z.symm)] at hj
        exact h1.2 j n hj
    · rw [gv_lt (by rw [h2.1]; omega)]
      show (as.map PV.i ++ [PV.b p]).set k _ = (as.set k (cs.getD k 0)).map PV.i ++ [PV.b p]
      rw [List.set_append_left _ _ (by rw [List.length_map, h1.1]; omega), List.map_set]
  · obtain rfl : k = 10 := by omega
    refine ⟨as, q, h1, ?_⟩
    rw [gv_10 h2.1]
    show (as.map PV.i ++ [PV.b p]).set 10 _ = as.map PV.i ++ [PV.b q]
    rw [List.set_append_right _ _ (by rw [List.length_map, h1.1]; omega), List.length_map, h1.1]
    rfl
theorem set_eq_iff {α : Type} {xs : List α} {k : Nat} {y d : α} (h : k < xs.length) : xs = xs.set k y ↔ xs.getD k d = y := by
  constructor
  · intro e
    rw [e, List.getD_eq_getElem?_getD, List.getElem?_set_self (by omega)]
    rfl
  · intro e
    rw [← e, List.getD_eq_getElem?_getD, List.getElem?_eq_getElem h]
    simp
theorem made_ok {as : List Int} (h : InB as) (p : Bool) : F_Book_init ((gv as p).map pvD) = .ok (bkD (gv as p)) := by
  rw [binit _ (gv_len h.1 p)]
  unfold resB
  rw [gv_ok h p]
theorem inb0 {ns : List Int} (hl : ns.length = 10) (h : ∀ k, k < 10 → loL.getD k 0 ≤ ns.getD k 0 ∧ ns.getD k 0 ≤ hiL.getD k 0) : InB ns := by
  refine ⟨hl, fun k n hk => ?_⟩
  have := (List.getElem?_eq_some_iff.mp hk).1
  have hg := h k (by omega)
  rw [List.getD_eq_getElem?_getD (l := ns), hk] at hg
  exact hg
theorem InB.at {ns : List Int} (h : InB ns) {k : Nat} (hk : k < 10) : loL.getD k 0 ≤ ns.getD k 0 ∧ ns.getD k 0 ≤ hiL.getD k 0 := by
  refine h.2 k _ ?_
  have := h.1
  rw [List.getD_eq_getElem?_getD, List.getElem?_eq_getElem (by omega)]
  rfl
theorem inb_pl {as : List Int} (h : InB as) : InB [as.getD 0 0, as.getD 1 0, 0, 100, 0, 0, 0, 0, 1, 1] := inb0 rfl fun k hk => by
  have h0 := h.at (show 0 < 10 by decide)
  have h1 := h.at (show 1 < 10 by decide)
  have : k = 0 ∨ k = 1 ∨ k = 2 ∨ k = 3 ∨ k = 4 ∨ k = 5 ∨ k = 6 ∨ k = 7 ∨ k = 8 ∨ k = 9 := by omega
  rcases this with rfl | rfl | rfl | rfl | rfl | rfl | rfl | rfl | rfl | rfl <;> first | exact h0 | exact h1 | simp [loL, hiL]
theorem inb_so {as : List Int} (h : InB as) : InB [as.getD 0 0, as.getD 1 0, 0, 100, as.getD 4 0, 0, 0, 0, 1, as.getD 9 0] := inb0 rfl fun k hk => by
  have h0 := h.at (show 0 < 10 by decide)
  have h1 := h.at (show 1 < 10 by decide)
  have h4 := h.at (show 4 < 10 by decide)
  have h9 := h.at (show 9 < 10 by decide)
  have : k = 0 ∨ k = 1 ∨ k = 2 ∨ k = 3 ∨ k = 4 ∨ k = 5 ∨ k = 6 ∨ k = 7 ∨ k = 8 ∨ k = 9 := by omega
  rcases this with rfl | rfl | rfl | rfl | rfl | rfl | rfl | rfl | rfl | rfl <;> first | exact h0 | exact h1 | exact h4 | exact h9 | simp [loL, hiL]
theorem rs_cmpV {n : Str} {F : List D → Res D} {ns : List Str} {vs : List D} {d e : D} {Q : D → Prop} {E : Str → List Str → List D → Prop} (hF : F [.obj n ns vs, d] = .ok e) (ht : isCls n d = true ∨ (tyN d).isSome = true) (q : Q e) : Rs (cmpV n F (.obj n ns vs) d) Q E := by
  have : cmpV n F (.obj n ns vs) d = .ok e := by
    unfold cmpV
    rw [if_pos (by unfold isCls; exact decide_eq_true rfl), if_pos ht, hF]
  rw [this]
  exact q
theorem rs_isB2 {x y : Bool} {Q : D → Prop} {E : Str → List Str → List D → Prop} (q : Q (.bl (!decide (x = y)))) : Rs (isBD true (.bl x) (.bl y)) Q E := q
end
section
abbrev stK (v0 v1 v2 v3 v4 v5 v6 v7 v8 v9 v10 v11 v12 v13 v14 v15 : Option D) : Rho := [v0, v1, v2, v3, v4, v5, v6, v7, v8, v9, v10, v11, v12, v13, v14, v15]
abbrev xsD (xs : List PV) : Option D := some (.lst (xs.map pvD))
abbrev pkL (k0 k1 k2 k3 k4 k5 k6 k7 k8 : Nat) : List D := [.int (k0 : Int), .int (k1 : Int), .int (k2 : Int), .int (k3 : Int), .int (k4 : Int), .int (k5 : Int), .int (k6 : Int), .int (k7 : Int), .int (k8 : Int)]
theorem sto_odd {i j : Nat} {m : Int} {us : List PV} {PK : List D} {k p : Nat} {r : Rho} {N B C : Rho → Prop} {R : D → Prop} {E : Rho → Str → List Str → List D → Prop} (h1 : r[i]? = some (some (.lst (us.map pvD)))) (hj : r[j]? = some (some (.int (k : Int)))) (hp : r[3]? = some (some (.lst PK))) (hm : atI PK m = some (.int (p : Int))) (hk : k ≤ 10) (hp9 : p < 9) (hl : us.length = 11)
    (q : ∀ us' : List PV, us'.length = 11 → N (r.set i (some (.lst (us'.map pvD))))) : Ss (stoF i (dVar j) (dCall F_l_odd (dCons (dVar j) (dCons (dOp ixD (dVar 3) (dC (.int m))) dNil))) r) N R B C E := by
  refine ss_sto (n := k) (k := (k : Int)) (ds := us.map pvD) (rs_call (rs_cons (rs_var hj (rs_cons (rs_op (rs_var hp (rs_c (rs_ixL hm (rs_nil (Rs.of (odd_eq hk hp9) ⟨h1, rs_var hj ⟨rfl, ixN_of (by rw [List.length_map]; omega), ?_⟩⟩))))))))))
  rw [← List.map_set]
  exact q _ (by rw [List.length_set]; exact hl)
theorem ss_par4 {i j k l : Nat} {f1 f2 f3 f4 : Rho → Res D} {r : Rho} {N B C : Rho → Prop} {R : D → Prop} {E : Rho → Str → List Str → List D → Prop} (h : Rs (f1 r) (fun d1 => Rs (f2 r) (fun d2 => Rs (f3 r) (fun d3 => Rs (f4 r) (fun d4 => N ((((r.set k (some d3)).set l (some d4)).set i (some d1)).set j (some d2))) (E r)) (E r)) (E r)) (E r)) : Ss (par4F i j k l f1 f2 f3 f4 r) N R B C E :=
  ss_lift (h.impE (fun _ q => ss_lift (q.impE (fun _ q => ss_lift (q.impE (fun _ q => ss_lift (q.impE (fun _ q => ss_nx q) fun _ _ _ z => z)) fun _ _ _ z => z)) fun _ _ _ z => z)) fun _ _ _ z => z)
/-- the row of limits that the law writes down -/
theorem rs_vlim {c : Int} {Q : D → Prop} {E : Str → List Str → List D → Prop} (q : ∀ vs, Fit vs vlim → Q (iL vs)) : Rs (F_l_row [.int c, .lst ((List.replicate (Int.toNat 10) [D.int 5, D.int 2001]).flatten ++ [D.int 2])]) Q E := by
  show Rs (F_l_row [.int c, iL vlim]) Q E
  refine row_of c vlim ?_ (by decide) q
  intro l hl
  have : l = 5 ∨ l = 2001 ∨ l = 2 := by
    unfold vlim at hl
    simp only [List.mem_cons, List.not_mem_nil, or_false] at hl
    omega
  omega
theorem law_true (ns : List Int) (hl : ns.length ≤ 63) : F_law [.fz (ns.map D.int)] = .ok (.bl true) := Rs.eq (by
  refine rs_run ?_
  unfold Fb_law
  generalize hsc : D.fz (ns.map D.int) = sc
  have hc : ∀ k : Nat, F_l_cell [sc, .int (k : Int)] = .ok (.int (ns.getD k 0)) := fun k => by rw [← hsc]; exact cell_eq ns k
  have hc0 : F_l_cell [sc, .int 0] = .ok (.int (ns.getD 0 0)) := hc 0
  have hc1 : F_l_cell [sc, .int 1] = .ok (.int (ns.getD 1 0)) := hc 1
  have hc2 : F_l_cell [sc, .int 2] = .ok (.int (ns.getD 2 0)) := hc 2
  clear hsc hc
  show Ss (seqF _ _ (stK (some sc) none none none none none none none none none none none none none none none)) _ _ _ _ _
  refine ss_seq (ss_cut (fun z => ∃ as p, InB as ∧ z = stK (some sc) (xsD (gv as p)) none none none none none none none none none none none none none none) ?_ ?_)
  · array_get_dec
    refine Rs.of hc0 ?_
    array_get_dec
    refine rs_mulL (by decide) ?_
    array_get_dec
    refine rs_vlim fun vs hv => ?_
    array_get_dec
    refine (values_sp hv).impE (fun d ⟨as, p, h1, h2⟩ => ?_) fun _ _ _ z => z.elim
    subst h2
    exact ⟨as, p, h1, by rw [← gv_D]; rfl⟩
  rintro _ ⟨as, p, ha, rfl⟩
  refine ss_seq (ss_cut (fun z => ∃ cs q, InB cs ∧ z = stK (some sc) (xsD (gv as p)) (xsD (gv cs q)) none none none none none none none none none none none none none) ?_ ?_)
  · array_get_dec
    refine Rs.of hc1 ?_
    array_get_dec
    refine rs_mulL (by decide) ?_
    array_get_dec
    refine rs_vlim fun vs hv => ?_
    array_get_dec
    refine (values_sp hv).impE (fun d ⟨as, p, h1, h2⟩ => ?_) fun _ _ _ z => z.elim
    subst h2
    exact ⟨as, p, h1, by rw [← gv_D]; rfl⟩
  rintro _ ⟨cs, q, hb, rfl⟩
  refine ss_seq (ss_cut (fun z => ∃ k0 k1 k2 k3 k4 k5 k6 k7 k8 : Nat, (k0 < 11 ∧ k1 < 5 ∧ k2 < 4 ∧ k3 < 13 ∧ k4 < 9 ∧ k5 < 13 ∧ k6 < 9 ∧ k7 < 5 ∧ k8 < 11) ∧ z = stK (some sc) (xsD (gv as p)) (xsD (gv cs q)) (some (.lst (pkL k0 k1 k2 k3 k4 k5 k6 k7 k8))) none none none none none none none none none none none none) ?_ ?_)
  · array_get_dec
    refine Rs.of hc2 ?_
    array_get_dec
    refine row_of _ [11, 5, 4, 13, 9, 13, 9, 5, 11] ?_ (by decide) fun vs hf => ?_
    · intro l hl
      simp only [List.mem_cons, List.not_mem_nil, or_false] at hl
      omega
    obtain ⟨v0, _, rfl, a0, b0, hf⟩ := hf.cons
    obtain ⟨v1, _, rfl, a1, b1, hf⟩ := hf.cons
    obtain ⟨v2, _, rfl, a2, b2, hf⟩ := hf.cons
    obtain ⟨v3, _, rfl, a3, b3, hf⟩ := hf.cons
    obtain ⟨v4, _, rfl, a4, b4, hf⟩ := hf.cons
    obtain ⟨v5, _, rfl, a5, b5, hf⟩ := hf.cons
    obtain ⟨v6, _, rfl, a6, b6, hf⟩ := hf.cons
    obtain ⟨v7, _, rfl, a7, b7, hf⟩ := hf.cons
    obtain ⟨v8, _, rfl, a8, b8, hf⟩ := hf.cons
    cases hf.nil
    obtain ⟨k0, rfl⟩ := Int.eq_ofNat_of_zero_le a0
    obtain ⟨k1, rfl⟩ := Int.eq_ofNat_of_zero_le a1
    obtain ⟨k2, rfl⟩ := Int.eq_ofNat_of_zero_le a2
    obtain ⟨k3, rfl⟩ := Int.eq_ofNat_of_zero_le a3
    obtain ⟨k4, rfl⟩ := Int.eq_ofNat_of_zero_le a4
    obtain ⟨k5, rfl⟩ := Int.eq_ofNat_of_zero_le a5
    obtain ⟨k6, rfl⟩ := Int.eq_ofNat_of_zero_le a6
    obtain ⟨k7, rfl⟩ := Int.eq_ofNat_of_zero_le a7
    obtain ⟨k8, rfl⟩ := Int.eq_ofNat_of_zero_le a8
    exact ⟨k0, k1, k2, k3, k4, k5, k6, k7, k8, ⟨by omega, by omega, by omega, by omega, by omega, by omega, by omega, by omega, by omega⟩, rfl⟩
  rintro _ ⟨k0, k1, k2, k3, k4, k5, k6, k7, k8, ⟨b0, b1, b2, b3, b4, b5, b6, b7, b8⟩, rfl⟩
  have lx : (gv as p).length = 11 := gv_len ha.1 p
  have ly : (gv cs q).length = 11 := gv_len hb.1 q
  have hx := gv_ok ha p
  have hy := gv_ok hb q
  have set_ok := set_gv p q ha hb (k := k8) (by omega)
  have eqk := eq_pv p q ha.1 hb.1 (k := k8) (by omega)
  have dx : dueD (gv as p) = .lst ((gv as p).map pvD) := by unfold dueD; rw [hx]
  have mkx : F_Book_init ((gv as p).map pvD) = _ := made_ok ha p
  have at' : ∀ {xs : List PV} {k : Nat}, xs.length = 11 → k < 11 → atI (xs.map pvD) (k : Int) = some (pvD (xs.getD k .n)) := fun h1 h2 => atI_nat (pv_at h1 h2)
  have x0 : atI ((gv as p).map pvD) 0 = some (.int (as.getD 0 0)) := by
    have := at' lx (show 0 < 11 by decide)
    rw [gv_lt (by rw [ha.1]; decide)] at this
    exact this
  have x1 : atI ((gv as p).map pvD) 1 = some (.int (as.getD 1 0)) := by
    have := at' lx (show 1 < 11 by decide)
    rw [gv_lt (by rw [ha.1]; decide)] at this
    exact this
  have y0 : atI ((gv cs q).map pvD) 0 = some (.int (cs.getD 0 0)) := by
    have := at' ly (show 0 < 11 by decide)
    rw [gv_lt (by rw [hb.1]; decide)] at this
    exact this
  have y1 : atI ((gv cs q).map pvD) 1 = some (.int (cs.getD 1 0)) := by
    have := at' ly (show 1 < 11 by decide)
    rw [gv_lt (by rw [hb.1]; decide)] at this
    exact this
  have y4 : atI ((gv cs q).map pvD) 4 = some (.int (cs.getD 4 0)) := by
    have := at' ly (show 4 < 11 by decide)
    rw [gv_lt (by rw [hb.1]; decide)] at this
    exact this
  have y9 : atI ((gv cs q).map pvD) 9 = some (.int (cs.getD 9 0)) := by
    have := at' ly (show 9 < 11 by decide)
    rw [gv_lt (by rw [hb.1]; decide)] at this
    exact this
  have y10 : atI ((gv cs q).map pvD) 10 = some (.bl q) := by
    have := at' ly (show 10 < 11 by decide)
    rw [gv_10 hb.1] at this
    exact this
  have pl_ok := made_ok (inb_pl ha) false
  have so_ok := made_ok (inb_so hb) q
  have tpl := told_eq _ (gv_len (inb_pl ha).1 false)
  have tso := told_eq _ (gv_len (inb_so hb).1 q)
  have spl := same_xs 5 _ (gv_len (inb_pl ha).1 false)
  have sso := same_xs 5 _ (gv_len (inb_so hb).1 q)
  have epl := bk_eq ha.1 (inb_pl ha).1 p false
  have cpl : eqD (.lst (gvL [as.getD 0 0, as.getD 1 0, 0, 100, 0, 0, 0, 0, 1, 1] false)) (.lst (gvL as p)) = .ok (.bl (decide ((as, p) = ([as.getD 0 0, as.getD 1 0, 0, 100, 0, 0, 0, 0, 1, 1], false)))) := by
    refine Rs.eq (rs_eqC cd_gL (by decide) (a := ([as.getD 0 0, as.getD 1 0, 0, 100, 0, 0, 0, 0, 1, 1], false)) (b := (as, p)) (inb_pl ha).1 ha.1 rfl ?_)
    by_cases e : (as, p) = ([as.getD 0 0, as.getD 1 0, 0, 100, 0, 0, 0, 0, 1, 1], false)
    · rw [decide_eq_true e, decide_eq_true e.symm]
    · rw [decide_eq_false e, decide_eq_false fun z => e z.symm]
  have exx := bk_eq ha.1 ha.1 p p
  have hset : ∀ ns b, ns.length = 10 → (gv as p).set k8 ((gv cs q).getD k8 .n) = gv ns b → ((as, p) = (ns, b) ↔ (gv as p).getD k8 .n = (gv cs q).getD k8 .n) := fun ns b h1 h2 => by
    rw [← gv_inj ha.1 h1, ← h2]
    exact set_eq_iff (by omega)
  obtain ⟨nz, bz, hz, ez⟩ := set_ok
  have hset' := hset nz bz hz.1 ez
  have exz : F_Book_eq [bkD (gv as p), bkD (gv nz bz)] = .ok (.bl (decide ((gv as p).getD k8 .n = (gv cs q).getD k8 .n))) := by
    rw [bk_eq ha.1 hz.1 p bz]
    by_cases e : (as, p) = (nz, bz)
    · rw [decide_eq_true e, decide_eq_true (hset'.mp e)]
    · rw [decide_eq_false e, decide_eq_false fun z => e (hset'.mpr z)]
  rw [← gv_D, ← gv_D] at cpl
  have hxt := bk_tup (gv as p) (gv as p)
  have hxl := bk_lst (gv as p) (gv as p)
  have bz_ok : F_l_one_changed [bkD (gv as p), .int (k8 : Int), pvD ((gv cs q).getD k8 .n)] = .ok (bkD (gv nz bz)) := by
    rw [one_changed _ lx k8 (by omega), ez]
    unfold resB
    rw [gv_ok hz bz]
  have bookx : F_l_book [.lst ((gv as p).map pvD)] = .ok (bkD (gv as p)) := by
    rw [book_eq _ lx]
    unfold resB
    rw [hx]
  have atx8 := at' lx (show k8 < 11 by omega)
  have aty8 := at' ly (show k8 < 11 by omega)
  clear hset hset' ez
  have m3 : min2 (k3 : Int) 10 = ((min k3 10 : Nat) : Int) := by unfold min2; split <;> omega
  have m5 : min2 (k5 : Int) 10 = ((min k5 10 : Nat) : Int) := by unfold min2; split <;> omega
  have n3 : min k3 10 ≤ 10 := by omega
  have n5 : min k5 10 ≤ 10 := by omega
  generalize min k3 10 = o1 at m3 n3
  generalize min k5 10 = o2 at m5 n5
  have stx : ∀ (n : Nat), F_l_same (n + 3) [.lst ((gv as p).map pvD), .lst ((gv as p).map pvD)] = .ok (.bl true) := fun n => same_xs n _ lx
  have chk : ∀ vs : List PV, vs.length = 11 → F_l_changes_are [bkD (gv as p), .lst ((gv as p).map pvD), .lst (pkL k0 k1 k2 k3 k4 k5 k6 k7 k8), .lst (vs.map pvD)] = .ok (.bl true) := fun vs hv => changes_are _ vs lx hv k0 k1 (by omega) b1 _
  have strg := strange_eq (gv as p) k7 b7
  have tx := told_eq _ lx
  have plE : F_Book_init ([PV.i (as.getD 0 0), .i (as.getD 1 0), .i 0, .i 100, .i 0, .i 0, .i 0, .i 0, .i 1, .i 1, .b false].map pvD) = .ok (bkD (gv [as.getD 0 0, as.getD 1 0, 0, 100, 0, 0, 0, 0, 1, 1] false)) := pl_ok
  have soE : F_Book_init ([PV.i (cs.getD 0 0), .i (cs.getD 1 0), .i 0, .i 100, .i (cs.getD 4 0), .i 0, .i 0, .i 0, .i 1, .i (cs.getD 9 0), .b q].map pvD) = .ok (bkD (gv [cs.getD 0 0, cs.getD 1 0, 0, 100, cs.getD 4 0, 0, 0, 0, 1, cs.getD 9 0] q)) := so_ok
  have lP : ∀ (P : List PV), P = gv [as.getD 0 0, as.getD 1 0, 0, 100, 0, 0, 0, 0, 1, 1] false → D.lst (P.map pvD) = .lst [.int (as.getD 0 0), .int (as.getD 1 0), .int 0, .int 100, .int 0, .int 0, .int 0, .int 0, .int 1, .int 1, .bl false] := fun P hP => by rw [hP]; rfl
  have lS : ∀ (P : List PV), P = gv [cs.getD 0 0, cs.getD 1 0, 0, 100, cs.getD 4 0, 0, 0, 0, 1, cs.getD 9 0] q → D.lst (P.map pvD) = .lst [.int (cs.getD 0 0), .int (cs.getD 1 0), .int 0, .int 100, .int (cs.getD 4 0), .int 0, .int 0, .int 0, .int 1, .int (cs.getD 9 0), .bl q] := fun P hP => by rw [hP]; rfl
  generalize hPL : gv [as.getD 0 0, as.getD 1 0, 0, 100, 0, 0, 0, 0, 1, 1] false = PL at plE tpl spl epl cpl lP
  generalize hSO : gv [cs.getD 0 0, cs.getD 1 0, 0, 100, cs.getD 4 0, 0, 0, 0, 1, cs.getD 9 0] q = SO at soE tso sso lS
  have lP := lP _ rfl
  have lS := lS _ rfl
  generalize gv nz bz = NZ at exz bz_ok
  generalize hX : gv as p = X at *
  generalize hY : gv cs q = Y at *
  generalize decide ((as, p) = ([as.getD 0 0, as.getD 1 0, 0, 100, 0, 0, 0, 0, 1, 1], false)) = bpl at epl cpl
  generalize decide (X.getD k8 PV.n = Y.getD k8 PV.n) = bk8 at exz eqk
  have exx : F_Book_eq [bkD X, bkD X] = .ok (.bl true) := by rw [exx]; simp
  generalize as.getD 0 0 = s0 at *
  generalize as.getD 1 0 = s1 at *
  generalize cs.getD 0 0 = t0 at *
  generalize cs.getD 1 0 = t1 at *
  generalize cs.getD 4 0 = t4 at *
  generalize cs.getD 9 0 = t9 at *
  refine ss_seq (ss_cut (fun z => z = stK (some sc) (xsD X) (xsD Y) (some (.lst (pkL k0 k1 k2 k3 k4 k5 k6 k7 k8))) (some (.int (o1 : Int))) (some (.int (o2 : Int))) (xsD Y) (xsD X) none none none none none none none none) ?_ ?_)
  · refine ss_par4 ?_
    array_get_dec
    rw [m3, m5]
    rfl
  rintro _ rfl
  refine ss_seq (ss_cut (fun z => ∃ U W : List PV, U.length = 11 ∧ W.length = 11 ∧ z = stK (some sc) (xsD X) (xsD Y) (some (.lst (pkL k0 k1 k2 k3 k4 k5 k6 k7 k8))) (some (.int (o1 : Int))) (some (.int (o2 : Int))) (xsD U) (xsD W) none none none none none none none none) ?_ ?_)
  · refine ss_if ?_
    array_get_dec
    refine ⟨fun _ => ?_, fun _ => ss_nx ⟨_, _, ly, lx, rfl⟩⟩
    refine ss_seq (sto_odd (k := o1) (p := k4) (us := Y) rfl rfl rfl rfl n3 b4 ly fun U hU => ?_)
    exact sto_odd (k := o1) (p := k4) (us := X) rfl rfl rfl rfl n3 b4 lx fun W hW => ⟨_, _, hU, hW, rfl⟩
  rintro _ ⟨U, W, hU, hW, rfl⟩
  refine ss_seq (ss_cut (fun z => ∃ U W : List PV, U.length = 11 ∧ W.length = 11 ∧ z = stK (some sc) (xsD X) (xsD Y) (some (.lst (pkL k0 k1 k2 k3 k4 k5 k6 k7 k8))) (some (.int (o1 : Int))) (some (.int (o2 : Int))) (xsD U) (xsD W) none none none none none none none none) ?_ ?_)
  · refine ss_if ?_
    array_get_dec
    refine ⟨fun _ => ?_, fun _ => ss_nx ⟨_, _, hU, hW, rfl⟩⟩
    refine ss_seq (sto_odd (k := o2) (p := k6) (us := U) rfl rfl rfl rfl n5 b6 hU fun U hU => ?_)
    exact sto_odd (k := o2) (p := k6) (us := W) rfl rfl rfl rfl n5 b6 hW fun W hW => ⟨_, _, hU, hW, rfl⟩
  rintro _ ⟨U', W', hU', hW', rfl⟩
  clear hU hW U W
  refine ss_seq (ss_no ?_ (ss_nx ?_))
  · array_get_dec
    refine Rs.of (made_eq W' hW') ?_
    array_get_dec
    refine Rs.of (due_eq W' hW') ?_
    array_get_dec
    refine Rs.of (same_due 5 W' hW') ?_
    array_get_dec
    refine Rs.of (made_eq X lx) ?_
    array_get_dec
    rw [dx]
    refine Rs.of (stx 5) ?_
    array_get_dec
    rfl
  refine ss_seq (ss_cut (fun z => z = stK (some sc) (xsD X) (xsD Y) (some (.lst (pkL k0 k1 k2 k3 k4 k5 k6 k7 k8))) (some (.int (o1 : Int))) (some (.int (o2 : Int))) (xsD U') (xsD W') (some (bkD X)) (some (bkD PL)) none none none none none none) ?_ ?_)
  · array_get_dec
    refine Rs.of bookx ?_
    refine rs_mkG ?_
    array_get_dec
    refine Rs.of plE ?_
    rfl
  rintro _ rfl
  refine ss_seq (ss_no ?_ (ss_nx ?_))
  · array_get_dec
    refine Rs.of tpl ?_
    array_get_dec
    rw [← lP]
    refine Rs.of spl ?_
    array_get_dec
    rfl
  refine ss_seq (ss_cut (fun z => z = stK (some sc) (xsD X) (xsD Y) (some (.lst (pkL k0 k1 k2 k3 k4 k5 k6 k7 k8))) (some (.int (o1 : Int))) (some (.int (o2 : Int))) (xsD U') (xsD W') (some (bkD X)) (some (bkD PL)) (some (bkD SO)) none none none none none) ?_ ?_)
  · refine ss_set (rs_mkG ?_)
    array_get_dec
    refine Rs.of soE ?_
    rfl
  rintro _ rfl
  refine ss_seq (ss_no ?_ (ss_nx ?_))
  · array_get_dec
    refine Rs.of tso ?_
    array_get_dec
    rw [← lS]
    refine Rs.of sso ?_
    array_get_dec
    rfl
  refine ss_seq (ss_no ?_ (ss_nx ?_))
  · array_get_dec
    refine Rs.of (chk U' hU') ?_
    array_get_dec
    refine Rs.of (chk Y ly) ?_
    array_get_dec
    rfl
  refine ss_seq (ss_no ?_ (ss_nx ?_))
  · array_get_dec
    refine Rs.of strg ?_
    array_get_dec
    have : k7 = 0 ∨ k7 = 1 ∨ k7 = 2 ∨ k7 = 3 ∨ k7 = 4 := by omega
    rcases this with rfl | rfl | rfl | rfl | rfl
    · refine rs_ixL (d := .str (Sg [122, 111, 111, 109])) rfl ?_
      array_get_dec
      decide +kernel
    · refine rs_ixL (d := .str (Sg [122, 111, 111, 109])) rfl ?_
      array_get_dec
      decide +kernel
    · refine rs_ixL (d := .str (Sg [115, 112, 114, 101, 97, 100])) rfl ?_
      array_get_dec
      decide +kernel
    · refine rs_ixL (d := .str (Sg [114, 111, 111, 109, 115])) rfl ?_
      array_get_dec
      decide +kernel
    · refine rs_ixL (d := .str (Sg [122, 111, 111, 109])) rfl ?_
      array_get_dec
      decide +kernel
  refine ss_seq (ss_cut (fun z => z = stK (some sc) (xsD X) (xsD Y) (some (.lst (pkL k0 k1 k2 k3 k4 k5 k6 k7 k8))) (some (.int (o1 : Int))) (some (.int (o2 : Int))) (xsD U') (xsD W') (some (bkD X)) (some (bkD PL)) (some (bkD SO)) (some (bkD X)) (some (bkD NZ)) none none none) ?_ ?_)
  · array_get_dec
    refine Rs.of bookx ?_
    array_get_dec
    refine Rs.of bz_ok ?_
    rfl
  rintro _ rfl
  refine ss_seq (ss_cut (fun z => z = stK (some sc) (xsD X) (xsD Y) (some (.lst (pkL k0 k1 k2 k3 k4 k5 k6 k7 k8))) (some (.int (o1 : Int))) (some (.int (o2 : Int))) (xsD U') (xsD W') (some (bkD X)) (some (bkD PL)) (some (bkD SO)) (some (bkD X)) (some (bkD NZ)) (some (.lst [.tup [bkD X, bkD X, .bl true], .tup [bkD X, bkD NZ, .bl bk8]])) none none) ?_ ?_)
  · array_get_dec
    refine Rs.of eqk ?_
    array_get_dec
    rfl
  rintro _ rfl
  refine ss_seq (ss_for (fun i z => ∃ a b, z = stK (some sc) (xsD X) (xsD Y) (some (.lst (pkL k0 k1 k2 k3 k4 k5 k6 k7 k8))) (some (.int (o1 : Int))) (some (.int (o2 : Int))) (xsD U') (xsD W') (some (bkD X)) (some (bkD PL)) (some (bkD SO)) (some (bkD X)) (some (bkD NZ)) (some (.lst [.tup [bkD X, bkD X, .bl true], .tup [bkD X, bkD NZ, .bl bk8]])) a b) ?_)
  · array_get_dec
    refine Rs.of tpl ?_
    array_get_dec
    refine Rs.of cpl ?_
    array_get_dec
    refine ⟨⟨none, none, rfl⟩, ?_, ?_⟩
    · rintro i d z hd ⟨a, b, rfl⟩
      have : ∃ (B : List PV) (c : Bool), d = .tup [bkD X, bkD B, .bl c] ∧ F_Book_eq [bkD X, bkD B] = .ok (.bl c) := by
        match i, hd with
        | 0, hd => cases hd; exact ⟨_, _, rfl, exx⟩
        | 1, hd => cases hd; exact ⟨_, _, rfl, exz⟩
        | 2, hd => cases hd; exact ⟨_, _, rfl, epl⟩
        | n + 3, hd => cases hd
      obtain ⟨B, c, rfl, hB⟩ := this
      refine ⟨_, rfl, ?_⟩
      unfold Lp_law_1
      refine ss_seq (ss_set (rs_op (rs_op (rs_var rfl (rs_c (rs_ixT rfl (rs_op (rs_var rfl (rs_c (rs_ixT rfl (rs_cmpV hB (.inl rfl) ?_)))))))))))
      refine ss_no ?_ (ss_nx ⟨_, _, rfl⟩)
      array_get_dec
      cases c <;> rfl
    · rintro z ⟨a, b, rfl⟩
      refine ss_seq (ss_no ?_ (ss_nx ?_))
      · refine rs_or (rs_T (rs_op (rs_op (rs_var rfl (rs_call (rs_cons (rs_var rfl (rs_nil ?_))))))))
        array_get_dec
        refine rs_cmpV hxl (.inr rfl) ?_
        array_get_dec
        refine rs_isB2 (rs_asB ?_)
        refine rs_T (rs_op (rs_op (rs_var rfl (rs_call (rs_cons (rs_var rfl (rs_nil ?_))))))) 
        array_get_dec
        refine rs_cmpV hxt (.inr rfl) ?_
        array_get_dec
        exact rs_isB2 (rs_asB rfl)
      refine ss_ret (rs_andV ?_)
      array_get_dec
      refine Rs.of names_eq ?_
      array_get_dec
      refine Rs.of (same_kt 7 (nmL.map D.str) (by decide) fun d hd => ?_) ?_
      · obtain ⟨z, _, rfl⟩ := List.mem_map.mp hd
        exact same_nm _ _
      array_get_dec
      refine Rs.of tx ?_
      array_get_dec
      exact Rs.of (stx 5) rfl)
end
end Lk
end S_MM_base
section S_P_walk
set_option Elab.async false
set_option linter.all false
set_option maxRecDepth 100000
set_option maxHeartbeats 4000000
namespace Lk
open PySem L2 Dx
def topS (i : Nat) : Stmt := PySem.Challenge.pw_laidforall_k35_books.main.body.getD i (.Pass ⟨0, 0, 0, 0⟩)
abbrev s_is_number : Stmt := topS 5
theorem sc_is_number : FnScope ["value"] ["value"] (defScope s_is_number) := ⟨rfl, rfl, rfl, by decide +kernel, rfl, by decide +kernel, by decide +kernel⟩
abbrev s_is_within : Stmt := topS 6
theorem sc_is_within : FnScope ["value", "least", "most"] ["value", "least", "most"] (defScope s_is_within) := ⟨rfl, rfl, rfl, by decide +kernel, rfl, by decide +kernel, by decide +kernel⟩
abbrev s_Book_init : Stmt := inClass (topS 10) 1
theorem sc_Book_init : FnScope ["self", "room", "height", "joint", "over", "keep", "orphan", "widow", "wait", "columns", "gutter", "full", "numbers", "field", "number", "least", "most"] ["self", "room", "height", "joint", "over", "keep", "orphan", "widow", "wait", "columns", "gutter", "full"] (defScope s_Book_init) := ⟨rfl, rfl, rfl, by decide +kernel, rfl, by decide +kernel, by decide +kernel⟩
abbrev s_Book_eq : Stmt := inClass (topS 10) 2
theorem sc_Book_eq : FnScope ["self", "other"] ["self", "other"] (defScope s_Book_eq) := ⟨rfl, rfl, rfl, by decide +kernel, rfl, by decide +kernel, by decide +kernel⟩
abbrev s_Book_changed : Stmt := inClass (topS 10) 3
theorem sc_Book_changed : FnScope ["self", "fields", "field", "merged"] ["self", "fields"] (defScope s_Book_changed) := ⟨rfl, rfl, rfl, by decide +kernel, rfl, by decide +kernel, by decide +kernel⟩
abbrev s_l_cell : Stmt := topS 12
theorem sc_l_cell : FnScope ["_law_script", "_law_k"] ["_law_script", "_law_k"] (defScope s_l_cell) := ⟨rfl, rfl, rfl, by decide +kernel, rfl, by decide +kernel, by decide +kernel⟩
abbrev s_l_row : Stmt := topS 13
theorem sc_l_row : FnScope ["_law_cell_here", "_law_limits", "_law_row_here", "_law_rest", "_law_limit", "_law_k", "_law_mixed"] ["_law_cell_here", "_law_limits"] (defScope s_l_row) := ⟨rfl, rfl, rfl, by decide +kernel, rfl, by decide +kernel, by decide +kernel⟩
abbrev s_l_number : Stmt := topS 14
theorem sc_l_number : FnScope ["_law_value"] ["_law_value"] (defScope s_l_number) := ⟨rfl, rfl, rfl, by decide +kernel, rfl, by decide +kernel, by decide +kernel⟩
abbrev s_l_same : Stmt := topS 15
theorem sc_l_same : FnScope ["_law_one", "_law_two", "_law_k"] ["_law_one", "_law_two"] (defScope s_l_same) := ⟨rfl, rfl, rfl, by decide +kernel, rfl, by decide +kernel, by decide +kernel⟩
abbrev s_l_names : Stmt := topS 16
theorem sc_l_names : FnScope [] [] (defScope s_l_names) := ⟨rfl, rfl, rfl, by decide +kernel, rfl, by decide +kernel, by decide +kernel⟩
abbrev s_l_bounds : Stmt := topS 17
theorem sc_l_bounds : FnScope ["_law_k"] ["_law_k"] (defScope s_l_bounds) := ⟨rfl, rfl, rfl, by decide +kernel, rfl, by decide +kernel, by decide +kernel⟩
abbrev s_l_values : Stmt := topS 18
theorem sc_l_values : FnScope ["_law_row_here", "_law_values_here", "_law_k", "_law_least", "_law_most", "_law_value"] ["_law_row_here"] (defScope s_l_values) := ⟨rfl, rfl, rfl, by decide +kernel, rfl, by decide +kernel, by decide +kernel⟩
abbrev s_l_odd : Stmt := topS 19
theorem sc_l_odd : FnScope ["_law_k", "_law_pick", "_law_least", "_law_most"] ["_law_k", "_law_pick"] (defScope s_l_odd) := ⟨rfl, rfl, rfl, by decide +kernel, rfl, by decide +kernel, by decide +kernel⟩
abbrev s_l_fits : Stmt := topS 20
theorem sc_l_fits : FnScope ["_law_k", "_law_value"] ["_law_k", "_law_value"] (defScope s_l_fits) := ⟨rfl, rfl, rfl, by decide +kernel, rfl, by decide +kernel, by decide +kernel⟩
abbrev s_l_due : Stmt := topS 21
theorem sc_l_due : FnScope ["_law_values_here", "_law_k"] ["_law_values_here"] (defScope s_l_due) := ⟨rfl, rfl, rfl, by decide +kernel, rfl, by decide +kernel, by decide +kernel⟩
abbrev s_l_told : Stmt := topS 22
theorem sc_l_told : FnScope ["_law_book_here", "_law_costs"] ["_law_book_here"] (defScope s_l_told) := ⟨rfl, rfl, rfl, by decide +kernel, rfl, by decide +kernel, by decide +kernel⟩
abbrev s_l_book : Stmt := topS 24
theorem sc_l_book : FnScope ["_law_v"] ["_law_v"] (defScope s_l_book) := ⟨rfl, rfl, rfl, by decide +kernel, rfl, by decide +kernel, by decide +kernel⟩
abbrev s_l_made : Stmt := topS 23
theorem sc_l_made : FnScope ["_law_v", "e"] ["_law_v"] (defScope s_l_made) := ⟨rfl, rfl, rfl, by decide +kernel, rfl, by decide +kernel, by decide +kernel⟩
abbrev s_l_one_changed : Stmt := topS 25
theorem sc_l_one_changed : FnScope ["_law_book_here", "_law_k", "_law_value"] ["_law_book_here", "_law_k", "_law_value"] (defScope s_l_one_changed) := ⟨rfl, rfl, rfl, by decide +kernel, rfl, by decide +kernel, by decide +kernel⟩
abbrev s_l_some_changed : Stmt := topS 26
theorem sc_l_some_changed : FnScope ["_law_book_here", "_law_way", "_law_v"] ["_law_book_here", "_law_way", "_law_v"] (defScope s_l_some_changed) := ⟨rfl, rfl, rfl, by decide +kernel, rfl, by decide +kernel, by decide +kernel⟩
abbrev s_l_some_due : Stmt := topS 27
theorem sc_l_some_due : FnScope ["_law_values_here", "_law_way", "_law_v", "_law_merged", "_law_k"] ["_law_values_here", "_law_way", "_law_v"] (defScope s_l_some_due) := ⟨rfl, rfl, rfl, by decide +kernel, rfl, by decide +kernel, by decide +kernel⟩
abbrev s_l_changes_are : Stmt := topS 28
theorem sc_l_changes_are : FnScope ["_law_book_here", "_law_values_here", "_law_pick", "_law_v", "_law_merged", "_law_told_here", "e"] ["_law_book_here", "_law_values_here", "_law_pick", "_law_v"] (defScope s_l_changes_are) := ⟨rfl, rfl, rfl, by decide +kernel, rfl, by decide +kernel, by decide +kernel⟩
abbrev s_l_strange : Stmt := topS 29
theorem sc_l_strange : FnScope ["_law_book_here", "_law_way", "e"] ["_law_book_here", "_law_way"] (defScope s_l_strange) := ⟨rfl, rfl, rfl, by decide +kernel, rfl, by decide +kernel, by decide +kernel⟩
abbrev s_law : Stmt := topS 30
theorem sc_law : FnScope ["_law_script", "_law_values_here", "_law_other", "_law_pick", "_law_one", "_law_two", "_law_v", "_law_bad", "_law_book_here", "_law_plain", "_law_some", "_law_twin", "_law_near", "_law_pairs", "_law_pair", "_law_told_here"] ["_law_script"] (defScope s_law) := ⟨rfl, rfl, rfl, by decide +kernel, rfl, by decide +kernel, by decide +kernel⟩
abbrev s_BadBook : Stmt := inClass (topS 3) 0
theorem sc_BadBook : FnScope ["self", "field"] ["self", "field"] (defScope s_BadBook) := ⟨rfl, rfl, rfl, by decide +kernel, rfl, by decide +kernel, by decide +kernel⟩
structure Txt (K : PySem.W.Frag) (mg : Str → Option Value) where
  f_is_number : Addr
  fd_is_number : FuncData
  F_is_number : Fun K "is_number" "is_number" s_is_number f_is_number fd_is_number
  g_is_number : mg "is_number" = some (.ref f_is_number)
  b_is_number : L2.Binds K fd_is_number ["value"] []
  f_is_within : Addr
  fd_is_within : FuncData
  F_is_within : Fun K "is_within" "is_within" s_is_within f_is_within fd_is_within
  g_is_within : mg "is_within" = some (.ref f_is_within)
  b_is_within : L2.Binds K fd_is_within ["value", "least", "most"] []
  f_Book_init : Addr
  fd_Book_init : FuncData
  F_Book_init : Fun K "__init__" "Book.__init__" s_Book_init f_Book_init fd_Book_init
  kd_Book_init : List Value
  kbg_Book_init_0 : KBn K fd_Book_init ["self", "room", "height", "joint", "over", "keep", "orphan", "widow", "wait", "columns", "gutter", "full"] 3 ["joint", "over", "keep", "orphan", "widow", "wait", "columns", "gutter", "full"] (fun us ws => us.take 1 ++ pickL [(0, 0), (0, 1), (1, 0), (1, 1), (1, 2), (1, 3), (1, 4), (1, 5), (1, 6), (1, 7), (1, 8)] (us.drop 1) ws kd_Book_init) (fun vs zs => vs.take 1 ++ pickL [(0, 0), (0, 1), (1, 0), (1, 1), (1, 2), (1, 3), (1, 4), (1, 5), (1, 6), (1, 7), (1, 8)] (vs.drop 1) zs [.int 0, .int 100, .int 0, .int 0, .int 0, .int 0, .int 1, .int 1, .bl false])
  kbg_Book_init_1 : KBn K fd_Book_init ["self", "room", "height", "joint", "over", "keep", "orphan", "widow", "wait", "columns", "gutter", "full"] 3 [] (fun us ws => us.take 1 ++ pickL [(0, 0), (0, 1), (2, 0), (2, 1), (2, 2), (2, 3), (2, 4), (2, 5), (2, 6), (2, 7), (2, 8)] (us.drop 1) ws kd_Book_init) (fun vs zs => vs.take 1 ++ pickL [(0, 0), (0, 1), (2, 0), (2, 1), (2, 2), (2, 3), (2, 4), (2, 5), (2, 6), (2, 7), (2, 8)] (vs.drop 1) zs [.int 0, .int 100, .int 0, .int 0, .int 0, .int 0, .int 1, .int 1, .bl false])
  kbg_Book_init_2 : KBn K fd_Book_init ["self", "room", "height", "joint", "over", "keep", "orphan", "widow", "wait", "columns", "gutter", "full"] 1 ["height", "room", "keep", "full", "gutter"] (fun us ws => us.take 1 ++ pickL [(1, 1), (1, 0), (2, 0), (2, 1), (1, 2), (2, 3), (2, 4), (2, 5), (2, 6), (1, 4), (1, 3)] (us.drop 1) ws kd_Book_init) (fun vs zs => vs.take 1 ++ pickL [(1, 1), (1, 0), (2, 0), (2, 1), (1, 2), (2, 3), (2, 4), (2, 5), (2, 6), (1, 4), (1, 3)] (vs.drop 1) zs [.int 0, .int 100, .int 0, .int 0, .int 0, .int 0, .int 1, .int 1, .bl false])
  kbd_Book_init : KBn K fd_Book_init ["self", "room", "height", "joint", "over", "keep", "orphan", "widow", "wait", "columns", "gutter", "full"] 1 ["room", "height", "joint", "over", "keep", "orphan", "widow", "wait", "columns", "gutter", "full"] (fun us ws => us ++ ws) (fun vs zs => vs ++ zs)
  f_Book_eq : Addr
  fd_Book_eq : FuncData
  F_Book_eq : Fun K "__eq__" "Book.__eq__" s_Book_eq f_Book_eq fd_Book_eq
  b_Book_eq : L2.Binds K fd_Book_eq ["self", "other"] []
  f_Book_changed : Addr
  fd_Book_changed : FuncData
  F_Book_changed : Fun K "changed" "Book.changed" s_Book_changed f_Book_changed fd_Book_changed
  f_l_cell : Addr
  fd_l_cell : FuncData
  F_l_cell : Fun K "_law_cell" "_law_cell" s_l_cell f_l_cell fd_l_cell
  g_l_cell : mg "_law_cell" = some (.ref f_l_cell)
  b_l_cell : L2.Binds K fd_l_cell ["_law_script", "_law_k"] []
  f_l_row : Addr
  fd_l_row : FuncData
  F_l_row : Fun K "_law_row" "_law_row" s_l_row f_l_row fd_l_row
  g_l_row : mg "_law_row" = some (.ref f_l_row)
  b_l_row : L2.Binds K fd_l_row ["_law_cell_here", "_law_limits"] []
  f_l_number : Addr
  fd_l_number : FuncData
  F_l_number : Fun K "_law_number" "_law_number" s_l_number f_l_number fd_l_number
  g_l_number : mg "_law_number" = some (.ref f_l_number)
  b_l_number : L2.Binds K fd_l_number ["_law_value"] []
  f_l_same : Addr
  fd_l_same : FuncData
  F_l_same : Fun K "_law_same" "_law_same" s_l_same f_l_same fd_l_same
  g_l_same : mg "_law_same" = some (.ref f_l_same)
  b_l_same : L2.Binds K fd_l_same ["_law_one", "_law_two"] []
  f_l_names : Addr
  fd_l_names : FuncData
  F_l_names : Fun K "_law_names" "_law_names" s_l_names f_l_names fd_l_names
  g_l_names : mg "_law_names" = some (.ref f_l_names)
  b_l_names : L2.Binds K fd_l_names [] []
  f_l_bounds : Addr
  fd_l_bounds : FuncData
  F_l_bounds : Fun K "_law_bounds" "_law_bounds" s_l_bounds f_l_bounds fd_l_bounds
  g_l_bounds : mg "_law_bounds" = some (.ref f_l_bounds)
  b_l_bounds : L2.Binds K fd_l_bounds ["_law_k"] []
  f_l_values : Addr
  fd_l_values : FuncData
  F_l_values : Fun K "_law_values" "_law_values" s_l_values f_l_values fd_l_values
  g_l_values : mg "_law_values" = some (.ref f_l_values)
  b_l_values : L2.Binds K fd_l_values ["_law_row_here"] []
  f_l_odd : Addr
  fd_l_odd : FuncData
  F_l_odd : Fun K "_law_odd" "_law_odd" s_l_odd f_l_odd fd_l_odd
  g_l_odd : mg "_law_odd" = some (.ref f_l_odd)
  b_l_odd : L2.Binds K fd_l_odd ["_law_k", "_law_pick"] []
  f_l_fits : Addr
  fd_l_fits : FuncData
  F_l_fits : Fun K "_law_fits" "_law_fits" s_l_fits f_l_fits fd_l_fits
  g_l_fits : mg "_law_fits" = some (.ref f_l_fits)
  b_l_fits : L2.Binds K fd_l_fits ["_law_k", "_law_value"] []
  f_l_due : Addr
  fd_l_due : FuncData
  F_l_due : Fun K "_law_due" "_law_due" s_l_due f_l_due fd_l_due
  g_l_due : mg "_law_due" = some (.ref f_l_due)
  b_l_due : L2.Binds K fd_l_due ["_law_values_here"] []
  f_l_told : Addr
  fd_l_told : FuncData
  F_l_told : Fun K "_law_told" "_law_told" s_l_told f_l_told fd_l_told
  g_l_told : mg "_law_told" = some (.ref f_l_told)
  b_l_told : L2.Binds K fd_l_told ["_law_book_here"] []
  f_l_book : Addr
  fd_l_book : FuncData
  F_l_book : Fun K "_law_book" "_law_book" s_l_book f_l_book fd_l_book
  g_l_book : mg "_law_book" = some (.ref f_l_book)
  b_l_book : L2.Binds K fd_l_book ["_law_v"] []
  f_l_made : Addr
  fd_l_made : FuncData
  F_l_made : Fun K "_law_made" "_law_made" s_l_made f_l_made fd_l_made
  g_l_made : mg "_law_made" = some (.ref f_l_made)
  b_l_made : L2.Binds K fd_l_made ["_law_v"] []
  f_l_one_changed : Addr
  fd_l_one_changed : FuncData
  F_l_one_changed : Fun K "_law_one_changed" "_law_one_changed" s_l_one_changed f_l_one_changed fd_l_one_changed
  g_l_one_changed : mg "_law_one_changed" = some (.ref f_l_one_changed)
  b_l_one_changed : L2.Binds K fd_l_one_changed ["_law_book_here", "_law_k", "_law_value"] []
  f_l_some_changed : Addr
  fd_l_some_changed : FuncData
  F_l_some_changed : Fun K "_law_some_changed" "_law_some_changed" s_l_some_changed f_l_some_changed fd_l_some_changed
  g_l_some_changed : mg "_law_some_changed" = some (.ref f_l_some_changed)
  b_l_some_changed : L2.Binds K fd_l_some_changed ["_law_book_here", "_law_way", "_law_v"] []
  f_l_some_due : Addr
  fd_l_some_due : FuncData
  F_l_some_due : Fun K "_law_some_due" "_law_some_due" s_l_some_due f_l_some_due fd_l_some_due
  g_l_some_due : mg "_law_some_due" = some (.ref f_l_some_due)
  b_l_some_due : L2.Binds K fd_l_some_due ["_law_values_here", "_law_way", "_law_v"] []
  f_l_changes_are : Addr
  fd_l_changes_are : FuncData
  F_l_changes_are : Fun K "_law_changes_are" "_law_changes_are" s_l_changes_are f_l_changes_are fd_l_changes_are
  g_l_changes_are : mg "_law_changes_are" = some (.ref f_l_changes_are)
  b_l_changes_are : L2.Binds K fd_l_changes_are ["_law_book_here", "_law_values_here", "_law_pick", "_law_v"] []
  f_l_strange : Addr
  fd_l_strange : FuncData
  F_l_strange : Fun K "_law_strange" "_law_strange" s_l_strange f_l_strange fd_l_strange
  g_l_strange : mg "_law_strange" = some (.ref f_l_strange)
  b_l_strange : L2.Binds K fd_l_strange ["_law_book_here", "_law_way"] []
  f_law : Addr
  fd_law : FuncData
  F_law : Fun K "law" "law" s_law f_law fd_law
  g_law : mg "law" = some (.ref f_law)
  b_law : L2.Binds K fd_law ["_law_script"] []
  n_ValueError : mg "ValueError" = none
  n_bool : mg "bool" = none
  n_dict : mg "dict" = none
  n_int : mg "int" = none
  n_isinstance : mg "isinstance" = none
  n_len : mg "len" = none
  n_list : mg "list" = none
  n_min : mg "min" = none
  n_range : mg "range" = none
  n_str : mg "str" = none
  n_tuple : mg "tuple" = none
  n_zip : mg "zip" = none
  k_LEAST : Addr
  c_LEAST : mg "LEAST" = some (.ref k_LEAST)
  kc_LEAST : ∀ {cm : CM} (S : Hp), Rp K cm S (.ref k_LEAST) (.kt [.int 1, .int 1, .int 0, .int 0, .int 0, .int 0, .int 0, .int 0, .int 1, .int 0])
  k_MOST : Addr
  c_MOST : mg "MOST" = some (.ref k_MOST)
  kc_MOST : ∀ {cm : CM} (S : Hp), Rp K cm S (.ref k_MOST) (.kt [.int 2000, .int 2000, .int 2000, .int 2000, .int 2000, .int 2000, .int 2000, .int 2000, .int 4, .int 40])
  a_BadBook : Addr
  g_BadBook : mg "BadBook" = some (.ref a_BadBook)
  a_LaidError : Addr
  g_LaidError : mg "LaidError" = some (.ref a_LaidError)
  a_TooLarge : Addr
  g_TooLarge : mg "TooLarge" = some (.ref a_TooLarge)
  o_BadBook : OexC K a_BadBook
  fI_BadBook : Addr
  fdI_BadBook : FuncData
  i_BadBook : PySem.W.findIn K (.ref a_BadBook) "__init__" = some (some (.ref fI_BadBook))
  ti_BadBook : PySem.W.typeIn K (.ref fI_BadBook) = some (.type "function")
  FI_BadBook : Fun K "__init__" "BadBook.__init__" s_BadBook fI_BadBook fdI_BadBook
  b_BadBook : L2.Binds K fdI_BadBook ["self", "field"] []
  no_BadBook_field : PySem.W.findIn K (.ref a_BadBook) "field" = some none
  xf_BadBook : XfC K a_BadBook
  xc_BadBook : ExcC K a_BadBook
  e_BadBook_BadBook : PySem.W.exmOne K (.ref a_BadBook) (.ref a_BadBook) = some true
  q_BadBook_LaidError : PySem.W.kitOne K (.ref a_BadBook) (.ref a_LaidError) = some true
  q_BadBook_TooLarge : PySem.W.kitOne K (.ref a_BadBook) (.ref a_TooLarge) = some false
  q_BadBook_ValueError : PySem.W.kitOne K (.ref a_BadBook) (.type "ValueError") = some true
  a_Book : Addr
  g_Book : mg "Book" = some (.ref a_Book)
  cl_Book : L2.Cls K a_Book
  mk_Book : L2.Mk K a_Book f_Book_init
  na_Book_columns : L2.NoAttr K a_Book "columns"
  na_Book_field_values : L2.NoAttr K a_Book "field_values"
  na_Book_full : L2.NoAttr K a_Book "full"
  na_Book_gutter : L2.NoAttr K a_Book "gutter"
  na_Book_height : L2.NoAttr K a_Book "height"
  na_Book_joint : L2.NoAttr K a_Book "joint"
  na_Book_keep : L2.NoAttr K a_Book "keep"
  na_Book_orphan : L2.NoAttr K a_Book "orphan"
  na_Book_over : L2.NoAttr K a_Book "over"
  na_Book_room : L2.NoAttr K a_Book "room"
  na_Book_wait : L2.NoAttr K a_Book "wait"
  na_Book_widow : L2.NoAttr K a_Book "widow"
  m_Book___eq__ : L2.Meth K a_Book "__eq__" f_Book_eq
  m_Book_changed : L2.Meth K a_Book "changed" f_Book_changed
  nf_Book : PySem.W.notFirst K a_Book (.ref a_Book) = true
  ic_Book : IsC K a_Book
  nt_Book : ∀ t ∈ tyAll, PySem.W.notFirst K a_Book (.type t) = true
  cr_Book : ClX.CRead K a_Book (.type "type")
  kv_Book_FIELDS : Addr
  kvc_Book_FIELDS : ∀ {cm : CM} (S : Hp), Rp K cm S (.ref kv_Book_FIELDS) (.kt [.str "room", .str "height", .str "joint", .str "over", .str "keep", .str "orphan", .str "widow", .str "wait", .str "columns", .str "gutter", .str "full"])
  cv_Book_FIELDS : ClX.CVal K a_Book (.type "type") "FIELDS" (.ref kv_Book_FIELDS) (.ref kv_Book_FIELDS)
def Txt.cm {K : PySem.W.Frag} {mg : Str → Option Value} (T : Txt K mg) : CM := fun n => if n = "BadBook" then some T.a_BadBook else if n = "Book" then some T.a_Book else none
section
variable {P : Program} {w : World} {K : PySem.W.Frag} {mg : Str → Option Value} {base : Heap}
theorem Txt.cm_BadBook (T : Txt K mg) : T.cm "BadBook" = some T.a_BadBook := by unfold Txt.cm; rw [if_pos rfl]
theorem Txt.cm_Book (T : Txt K mg) : T.cm "Book" = some T.a_Book := by unfold Txt.cm; rw [if_neg (by decide), if_pos rfl]
theorem Txt.exm_BadBook (T : Txt K mg) : ∀ n C b, T.cm n = some C → isM_BadBook n = some b → PySem.W.exmOne K (.ref C) (.ref T.a_BadBook) = some b := by
  intro n C b h1 h2
  unfold Txt.cm at h1
  unfold isM_BadBook at h2
  by_cases e0 : n = "BadBook"
  · subst e0; simp at h1 h2; subst h1 h2; exact T.e_BadBook_BadBook
  simp [e0] at h2
theorem Txt.xf_of_BadBook (T : Txt K mg) {C : Addr} (h : ∃ n, T.cm n = some C ∧ isM_BadBook n = some true) : XfC K C := by
  obtain ⟨n, h1, h2⟩ := h
  unfold Txt.cm at h1
  unfold isM_BadBook at h2
  by_cases e0 : n = "BadBook"
  · subst e0; simp at h1; subst h1; exact T.xf_BadBook
  simp [e0] at h2
theorem Txt.xc_of_BadBook (T : Txt K mg) {C : Addr} (h : ∃ n, T.cm n = some C ∧ isM_BadBook n = some true) : ExcC K C := by
  obtain ⟨n, h1, h2⟩ := h
  unfold Txt.cm at h1
  unfold isM_BadBook at h2
  by_cases e0 : n = "BadBook"
  · subst e0; simp at h1; subst h1; exact T.xc_BadBook
  simp [e0] at h2
theorem Txt.no_of_BadBook_field (T : Txt K mg) {C : Addr} (h : ∃ n, T.cm n = some C ∧ isM_BadBook n = some true) : PySem.W.findIn K (.ref C) "field" = some none := by
  obtain ⟨n, h1, h2⟩ := h
  unfold Txt.cm at h1
  unfold isM_BadBook at h2
  by_cases e0 : n = "BadBook"
  · subst e0; simp at h1; subst h1; exact T.no_BadBook_field
  simp [e0] at h2
theorem Txt.isi_LaidError (T : Txt K mg) : ∀ n C b, T.cm n = some C → isM_LaidError n = some b → PySem.W.kitOne K (.ref C) (.ref T.a_LaidError) = some b := by
  intro n C b h1 h2
  unfold Txt.cm at h1
  unfold isM_LaidError at h2
  by_cases e0 : n = "BadBook"
  · subst e0; simp at h1 h2; subst h1 h2; exact T.q_BadBook_LaidError
  simp [e0] at h2
theorem Txt.isi_TooLarge (T : Txt K mg) : ∀ n C b, T.cm n = some C → isM_TooLarge n = some b → PySem.W.kitOne K (.ref C) (.ref T.a_TooLarge) = some b := by
  intro n C b h1 h2
  unfold Txt.cm at h1
  unfold isM_TooLarge at h2
  by_cases e0 : n = "BadBook"
  · subst e0; simp at h1 h2; subst h1 h2; exact T.q_BadBook_TooLarge
  simp [e0] at h2
theorem Txt.isi_ValueError (T : Txt K mg) : ∀ n C b, T.cm n = some C → isM_ValueError n = some b → PySem.W.kitOne K (.ref C) (.type "ValueError") = some b := by
  intro n C b h1 h2
  unfold Txt.cm at h1
  unfold isM_ValueError at h2
  by_cases e0 : n = "BadBook"
  · subst e0; simp at h1 h2; subst h1 h2; exact T.q_BadBook_ValueError
  simp [e0] at h2
theorem ox_BadBook (T : Txt K mg) : FnOk P w K mg base (L2.CX P w) 1 T.fI_BadBook T.fdI_BadBook ["self", "field"] (spX1 K T.a_BadBook "field") := xinit1 T.FI_BadBook sc_BadBook rfl rfl fun cdv A outer s H E => pss_one (ps_ost (pv 0) (pv 1))
theorem ok_is_number (T : Txt K mg) : FnOk P w K mg base (L2.CX P w) 1 T.f_is_number T.fd_is_number ["value"] (spD K T.cm [false] false F_is_number)   := dok (G' := []) (k := 0) T.F_is_number sc_is_number rfl (by decide) fun cdv A outer s H E hr =>
  (ds_one (ds_ret gok0 rfl (de_and (de_isi "int" T.n_isinstance (by rfl) (by rfl) T.n_int (by decide +kernel) (db_var 0 (pv 0) (.inl (by rfl)))) (de_one (de_not (de_isi "bool" T.n_isinstance (by rfl) (by rfl) T.n_bool (by decide +kernel) (db_var 0 (pv 0) (.inl (by rfl)))))))))
theorem ok_is_within (T : Txt K mg) : FnOk P w K mg base (L2.CX P w) 2 T.f_is_within T.fd_is_within ["value", "least", "most"] (spD K T.cm [false, false, false] false F_is_within)   := dok (G' := []) (k := 1) T.F_is_within sc_is_within rfl (by decide) fun cdv A outer s H E hr =>
  (ds_one (ds_ret gok0 rfl (de_and (de_callV (ok_is_number T) (takes_of rfl rfl rfl rfl) (hr.mono (by decide)) (by rfl) T.g_is_number T.F_is_number.kp T.b_is_number (dm_val (de_var 0 (pv 0) rfl) dm_nil)) (de_one (de_chain or_le os_ord or_le os_ord (db_var 1 (pv 1) (.inl (by rfl))) (db_var 0 (pv 0) (.inl (by rfl))) (db_var 2 (pv 2) (.inl (by rfl))))))))
theorem ok_Book_init (T : Txt K mg) : FnOk P w K mg base (L2.CX P w) 3 T.f_Book_init T.fd_Book_init ["self", "room", "height", "joint", "over", "keep", "orphan", "widow", "wait", "columns", "gutter", "full"] (spI K T.cm T.a_Book [false, false, false, false, false, false, false, false, false, false, false] F_Book_init)   := dokI (k := 2) T.F_Book_init sc_Book_init T.cm_Book rfl (by decide) (fun _ => rfl) fun cdv A outer s H E a hr =>
  (ds_cons (ds_set 12 gok0 sc_Book_init.nd rfl (by first | exact Or.inl rfl | exact Or.inr rfl) (de_tup (da_cons (de_var 1 (pv 1) rfl) (da_cons (de_var 2 (pv 2) rfl) (da_cons (de_var 3 (pv 3) rfl) (da_cons (de_var 4 (pv 4) rfl) (da_cons (de_var 5 (pv 5) rfl) (da_cons (de_var 6 (pv 6) rfl) (da_cons (de_var 7 (pv 7) rfl) (da_cons (de_var 8 (pv 8) rfl) (da_cons (de_var 9 (pv 9) rfl) (da_cons (de_var 10 (pv 10) rfl) da_nil))))))))))))
  (ds_cons (ds_for gok0 (passes_of rfl) rfl (di_zip4 T.n_zip (by rfl) (da_cons (de_cval (v := .ref T.kv_Book_FIELDS) (by rfl) T.g_Book T.cr_Book T.cv_Book_FIELDS fun S => T.kvc_Book_FIELDS S) (da_cons (de_var 12 (pv 12) rfl) (da_cons (de_c (v := .ref T.k_LEAST) (pe_glob (by rfl) T.c_LEAST rfl) fun S => T.kc_LEAST S) (da_cons (de_c (v := .ref T.k_MOST) (pe_glob (by rfl) T.c_MOST rfl) fun S => T.kc_MOST S) da_nil))))) (dg_tup rfl (dg_cons (dg_name 13 sc_Book_init.nd rfl (by first | exact Or.inl rfl | exact Or.inr rfl)) (dg_cons (dg_name 14 sc_Book_init.nd rfl (by first | exact Or.inl rfl | exact Or.inr rfl)) (dg_cons (dg_name 15 sc_Book_init.nd rfl (by first | exact Or.inl rfl | exact Or.inr rfl)) (dg_cons (dg_name 16 sc_Book_init.nd rfl (by first | exact Or.inl rfl | exact Or.inr rfl)) dg_nil)))))
  (ds_one (ds_if gok0 (dt_not (dt_val (de_callV (ok_is_within T) (takes_of rfl rfl rfl rfl) (hr.mono (by decide)) (by rfl) T.g_is_within T.F_is_within.kp T.b_is_within (dm_val (de_var 14 (pv 14) rfl) (dm_val (de_var 15 (pv 15) rfl) (dm_val (de_var 16 (pv 16) rfl) dm_nil))))))
  (ds_one (ds_raise1 gok0 T.cm_BadBook rfl (takes_of rfl rfl rfl rfl) T.o_BadBook T.i_BadBook T.ti_BadBook T.no_BadBook_field (ox_BadBook T) (hr.mono (by decide)) T.b_BadBook (by rfl) T.g_BadBook (da_cons (de_var 13 (pv 13) rfl) da_nil)))
  ds_nil)))
  (ds_cons (ds_if gok0 (dt_not (dt_val (de_isi "bool" T.n_isinstance (by rfl) (by rfl) T.n_bool (by decide +kernel) (db_var 11 (pv 11) (.inl (by rfl))))))
  (ds_one (ds_raise1 gok0 T.cm_BadBook rfl (takes_of rfl rfl rfl rfl) T.o_BadBook T.i_BadBook T.ti_BadBook T.no_BadBook_field (ox_BadBook T) (hr.mono (by decide)) T.b_BadBook (by rfl) T.g_BadBook (da_cons (de_strL (by decide +kernel)) da_nil)))
  ds_nil)
  (ds_cons (ds_fst 0 gok0 T.cm_Book T.cl_Book T.na_Book_room trivial (pv 0) (de_var 1 (pv 1) rfl))
  (ds_cons (ds_fst 0 gok0 T.cm_Book T.cl_Book T.na_Book_height trivial (pv 0) (de_var 2 (pv 2) rfl))
  (ds_cons (ds_fst 0 gok0 T.cm_Book T.cl_Book T.na_Book_joint trivial (pv 0) (de_var 3 (pv 3) rfl))
  (ds_cons (ds_fst 0 gok0 T.cm_Book T.cl_Book T.na_Book_over trivial (pv 0) (de_var 4 (pv 4) rfl))
  (ds_cons (ds_fst 0 gok0 T.cm_Book T.cl_Book T.na_Book_keep trivial (pv 0) (de_var 5 (pv 5) rfl))
  (ds_cons (ds_fst 0 gok0 T.cm_Book T.cl_Book T.na_Book_orphan trivial (pv 0) (de_var 6 (pv 6) rfl))
  (ds_cons (ds_fst 0 gok0 T.cm_Book T.cl_Book T.na_Book_widow trivial (pv 0) (de_var 7 (pv 7) rfl))
  (ds_cons (ds_fst 0 gok0 T.cm_Book T.cl_Book T.na_Book_wait trivial (pv 0) (de_var 8 (pv 8) rfl))
  (ds_cons (ds_fst 0 gok0 T.cm_Book T.cl_Book T.na_Book_columns trivial (pv 0) (de_var 9 (pv 9) rfl))
  (ds_cons (ds_fst 0 gok0 T.cm_Book T.cl_Book T.na_Book_gutter trivial (pv 0) (de_var 10 (pv 10) rfl))
  (ds_cons (ds_fst 0 gok0 T.cm_Book T.cl_Book T.na_Book_full trivial (pv 0) (de_var 11 (pv 11) rfl))
  (ds_one (ds_fst 0 gok0 T.cm_Book T.cl_Book T.na_Book_field_values trivial (pv 0) (de_op or_add os_add (db_var 12 (pv 12) (.inl (by rfl))) (db_of (de_tup (da_cons (de_var 11 (pv 11) rfl) da_nil))))))))))))))))))))
theorem ok_Book_eq (T : Txt K mg) : FnOk P w K mg base (L2.CX P w) 1 T.f_Book_eq T.fd_Book_eq ["self", "other"] (spD K T.cm [true, true] false F_Book_eq)   := dok (G' := []) (k := 0) T.F_Book_eq sc_Book_eq rfl (by decide) fun cdv A outer s H E hr =>
  (ds_one (ds_ret gok0 rfl (de_and (de_isO T.cm_Book T.ic_Book T.n_isinstance (by rfl) (by rfl) T.g_Book (db_var 1 (pv 1) (.inr (.inr (by rfl))))) (de_one (de_cmp (or_eq hr.units) os_eq (db_of (de_fld T.cm_Book T.cl_Book T.na_Book_field_values (db_var 0 (pv 0) (.inr (.inr (by rfl)))))) (db_of (de_fld T.cm_Book T.cl_Book T.na_Book_field_values (db_var 1 (pv 1) (.inr (.inr (by rfl)))))) (nomark _))))))
theorem ok_Book_changed (T : Txt K mg) : FnKW P w K mg base 5 T.f_Book_changed "self" (spD K T.cm [true, false] true F_Book_changed)   := dokKW (G' := []) (k := 4) T.F_Book_changed sc_Book_changed (by decide) rfl fun cdv A outer s H E hr =>
  (ds_cons (ds_for gok0 (passes_of rfl) rfl (di_keys (de_var 1 (pv 1) rfl)) (dg_name 2 sc_Book_changed.nd rfl (by first | exact Or.inl rfl | exact Or.inr rfl))
  (ds_one (ds_if gok0 (dt_cmp op_notIn_seq os_inKt (db_var 2 (pv 2) (.inl (by rfl))) (db_of (de_cval (v := .ref T.kv_Book_FIELDS) (by rfl) T.g_Book T.cr_Book T.cv_Book_FIELDS fun S => T.kvc_Book_FIELDS S)) (by rfl))
  (ds_one (ds_raise1 gok0 T.cm_BadBook rfl (takes_of rfl rfl rfl rfl) T.o_BadBook T.i_BadBook T.ti_BadBook T.no_BadBook_field (ox_BadBook T) (hr.mono (by decide)) T.b_BadBook (by rfl) T.g_BadBook (da_cons (de_var 2 (pv 2) rfl) da_nil)))
  ds_nil)))
  (ds_cons (ds_setO 3 gok0 (show 3 < 4 by decide) sc_Book_changed.nd rfl (by first | exact Or.inl rfl | exact Or.inr rfl) (de_dictZ rfl (da_cons (de_cval (v := .ref T.kv_Book_FIELDS) (by rfl) T.g_Book T.cr_Book T.cv_Book_FIELDS fun S => T.kvc_Book_FIELDS S) (da_cons (de_fld T.cm_Book T.cl_Book T.na_Book_field_values (db_var 0 (pv 0) (.inr (.inr (by rfl))))) da_nil)) (by rfl) T.n_dict (by decide +kernel) (by rfl) T.n_zip))
  (ds_cons (ds_for gok0 (passes_of rfl) rfl (di_keys (de_var 1 (pv 1) rfl)) (dg_name 2 sc_Book_changed.nd rfl (by first | exact Or.inl rfl | exact Or.inr rfl))
  (ds_one (ds_put 3 gok0 hr rfl (pv 3) (de_var 2 (pv 2) rfl) (de_getZ hr (db_var 1 (pv 1) (.inl (by rfl))) (db_var 2 (pv 2) (.inl (by rfl))) (fun _ _ => rfl)))))
  (ds_one (ds_retO gok0 rfl (de_makeDD (ks := ["room", "height", "joint", "over", "keep", "orphan", "widow", "wait", "columns", "gutter", "full"]) T.mk_Book (ok_Book_init T) (takes_of rfl rfl rfl rfl) (hr.mono (by decide)) (by rfl) T.g_Book T.kbd_Book_init (db_var 3 (pv 3) (.inr (.inl (by trivial))))))))))
theorem ok_l_cell (T : Txt K mg) : FnOk P w K mg base (L2.CX P w) 1 T.f_l_cell T.fd_l_cell ["_law_script", "_law_k"] (spD K T.cm [false, false] false F_l_cell)   := dok (G' := []) (k := 0) T.F_l_cell sc_l_cell rfl (by decide) fun cdv A outer s H E hr =>
  (ds_cons (ds_if gok0 (dt_cmp or_lt os_ord (db_var 1 (pv 1) (.inl (by rfl))) (db_of (de_bltn call_len cs_len (by rfl) T.n_len (by decide +kernel) (dm_bor (db_var 0 (pv 0) (.inl (by rfl))) dm_nil))) (nomark _))
  (ds_one (ds_ret gok0 rfl (de_type cr_int cs_int (by rfl) T.n_int (by decide +kernel) (dm_bor (db_of (de_ix (db_var 0 (pv 0) (.inl (by rfl))) (db_var 1 (pv 1) (.inl (by rfl))) (fun _ _ => rfl))) dm_nil))))
  ds_nil)
  (ds_one (ds_ret gok0 rfl de_int)))
theorem ok_l_row (T : Txt K mg) : FnOk P w K mg base (L2.CX P w) 1 T.f_l_row T.fd_l_row ["_law_cell_here", "_law_limits"] (spD K T.cm [false, false] false F_l_row)   := dok (G' := []) (k := 0) T.F_l_row sc_l_row rfl (by decide) fun cdv A outer s H E hr =>
  (ds_cons (ds_setO 2 gok0 (show 2 < 7 by decide) sc_l_row.nd rfl (by first | exact Or.inl rfl | exact Or.inr rfl) (de_lst da_nil))
  (ds_cons (ds_if gok0 (dt_cmp or_ge os_ord (db_var 0 (pv 0) (.inl (by rfl))) (db_of de_int) (nomark _))
  (ds_cons (ds_set 3 gok0 sc_l_row.nd rfl (by first | exact Or.inl rfl | exact Or.inr rfl) (de_op op_sub os_sub (db_var 0 (pv 0) (.inl (by rfl))) (db_of de_int)))
  (ds_cons (ds_for gok0 (passes_of rfl) rfl (di_list (de_var 1 (pv 1) rfl)) (dg_name 4 sc_l_row.nd rfl (by first | exact Or.inl rfl | exact Or.inr rfl))
  (ds_cons (ds_app 2 gok0 rfl (pv 2) (de_op op_mod os_mod (db_of (de_type cr_int cs_int (by rfl) T.n_int (by decide +kernel) (dm_bor (db_var 3 (pv 3) (.inl (by rfl))) dm_nil))) (db_var 4 (pv 4) (.inl (by rfl)))))
  (ds_one (ds_set 3 gok0 sc_l_row.nd rfl (by first | exact Or.inl rfl | exact Or.inr rfl) (de_op or_fdiv os_fdiv (db_var 3 (pv 3) (.inl (by rfl))) (db_var 4 (pv 4) (.inl (by rfl))))))))
  (ds_pub 2 (ds_one (ds_ret gok0 rfl (de_var 2 (pv 2) rfl))) (.inl rfl))))
  ds_nil)
  (ds_cons (ds_for gok0 (passes_of rfl) rfl (di_rng1 T.n_range (by rfl) (da_cons (de_bltn call_len cs_len (by rfl) T.n_len (by decide +kernel) (dm_bor (db_var 1 (pv 1) (.inl (by rfl))) dm_nil)) da_nil)) (dg_name 5 sc_l_row.nd rfl (by first | exact Or.inl rfl | exact Or.inr rfl))
  (ds_cons (ds_set 6 gok0 sc_l_row.nd rfl (by first | exact Or.inl rfl | exact Or.inr rfl) (de_op op_mod os_mod (db_of (de_type cr_int cs_int (by rfl) T.n_int (by decide +kernel) (dm_bor (db_of (de_op or_add os_add (db_of (de_op or_add os_add (db_of (de_op or_mulX os_mulX (db_var 0 (pv 0) (.inl (by rfl))) (db_of de_int))) (db_of (de_op or_mulX os_mulX (db_var 5 (pv 5) (.inl (by rfl))) (db_of de_int))))) (db_of de_int))) dm_nil))) (db_of de_int)))
  (ds_cons (ds_set 6 gok0 sc_l_row.nd rfl (by first | exact Or.inl rfl | exact Or.inr rfl) (de_op op_mod os_mod (db_of (de_type cr_int cs_int (by rfl) T.n_int (by decide +kernel) (dm_bor (db_of (de_op or_add os_add (db_of (de_op or_add os_add (db_of (de_op or_mulX os_mulX (db_var 6 (pv 6) (.inl (by rfl))) (db_of (de_op or_add os_add (db_of de_int) (db_of (de_op or_mulX os_mulX (db_of de_int) (db_var 5 (pv 5) (.inl (by rfl))))))))) (db_of (de_op or_mulX os_mulX (db_of (de_op or_mulX os_mulX (db_var 5 (pv 5) (.inl (by rfl))) (db_var 5 (pv 5) (.inl (by rfl))))) (db_of de_int))))) (db_of de_int))) dm_nil))) (db_of de_int)))
  (ds_one (ds_app 2 gok0 rfl (pv 2) (de_op op_mod os_mod (db_of (de_type cr_int cs_int (by rfl) T.n_int (by decide +kernel) (dm_bor (db_of (de_op or_fdiv os_fdiv (db_var 6 (pv 6) (.inl (by rfl))) (db_of de_int))) dm_nil))) (db_of (de_ix (db_var 1 (pv 1) (.inl (by rfl))) (db_var 5 (pv 5) (.inl (by rfl))) (fun _ _ => rfl)))))))))
  (ds_pub 2 (ds_one (ds_ret gok0 rfl (de_var 2 (pv 2) rfl))) (.inl rfl)))))
theorem ok_l_number (T : Txt K mg) : FnOk P w K mg base (L2.CX P w) 1 T.f_l_number T.fd_l_number ["_law_value"] (spD K T.cm [false] false F_l_number)   := dok (G' := []) (k := 0) T.F_l_number sc_l_number rfl (by decide) fun cdv A outer s H E hr =>
  (ds_one (ds_ret gok0 rfl (de_and (de_isi "int" T.n_isinstance (by rfl) (by rfl) T.n_int (by decide +kernel) (db_var 0 (pv 0) (.inl (by rfl)))) (de_one (de_not (de_isi "bool" T.n_isinstance (by rfl) (by rfl) T.n_bool (by decide +kernel) (db_var 0 (pv 0) (.inl (by rfl)))))))))
theorem ok_l_same (T : Txt K mg) : ∀ {n : Nat}, FnOk P w K mg base (L2.CX P w) (1 + n) T.f_l_same T.fd_l_same ["_law_one", "_law_two"] (spD K T.cm [false, false] false (F_l_same n))
  | 0 => fnok_bad
  | n + 1 => dok (G' := []) (k := 1 + n) T.F_l_same sc_l_same rfl (by decide) fun cdv A outer s H E hr => by
    have ih := fun T => ok_l_same T (n := n)
    exact (ds_cons (ds_if gok0 (dt_cmp op_isN os_is (db_var 1 (pv 1) (.inl (by rfl))) (db_of de_non) (nomark _))
  (ds_one (ds_ret gok0 rfl (de_cmp op_isN os_is (db_var 0 (pv 0) (.inl (by rfl))) (db_of de_non) (nomark _))))
  ds_nil)
  (ds_cons (ds_if gok0 (dt_val (de_isi "bool" T.n_isinstance (by rfl) (by rfl) T.n_bool (by decide +kernel) (db_var 1 (pv 1) (.inl (by rfl)))))
  (ds_one (ds_ret gok0 rfl (de_and (de_isi "bool" T.n_isinstance (by rfl) (by rfl) T.n_bool (by decide +kernel) (db_var 0 (pv 0) (.inl (by rfl)))) (de_one (de_cmp (or_eq hr.units) os_eq (db_var 0 (pv 0) (.inl (by rfl))) (db_var 1 (pv 1) (.inl (by rfl))) (nomark _))))))
  ds_nil)
  (ds_cons (ds_if gok0 (dt_val (de_isi "int" T.n_isinstance (by rfl) (by rfl) T.n_int (by decide +kernel) (db_var 1 (pv 1) (.inl (by rfl)))))
  (ds_one (ds_ret gok0 rfl (de_and (de_isi "int" T.n_isinstance (by rfl) (by rfl) T.n_int (by decide +kernel) (db_var 0 (pv 0) (.inl (by rfl)))) (de_and (de_not (de_isi "bool" T.n_isinstance (by rfl) (by rfl) T.n_bool (by decide +kernel) (db_var 0 (pv 0) (.inl (by rfl))))) (de_one (de_cmp (or_eq hr.units) os_eq (db_var 0 (pv 0) (.inl (by rfl))) (db_var 1 (pv 1) (.inl (by rfl))) (nomark _)))))))
  ds_nil)
  (ds_cons (ds_if gok0 (dt_val (de_isi "str" T.n_isinstance (by rfl) (by rfl) T.n_str (by decide +kernel) (db_var 1 (pv 1) (.inl (by rfl)))))
  (ds_one (ds_ret gok0 rfl (de_and (de_isi "str" T.n_isinstance (by rfl) (by rfl) T.n_str (by decide +kernel) (db_var 0 (pv 0) (.inl (by rfl)))) (de_one (de_cmp (or_eq hr.units) os_eq (db_var 0 (pv 0) (.inl (by rfl))) (db_var 1 (pv 1) (.inl (by rfl))) (nomark _))))))
  ds_nil)
  (ds_cons (ds_if gok0 (PW.pt (dw_and (dt_val (de_isi "tuple" T.n_isinstance (by rfl) (by rfl) T.n_tuple (by decide +kernel) (db_var 1 (pv 1) (.inl (by rfl))))) (dw_and1 (dt_not (dt_val (de_isi "tuple" T.n_isinstance (by rfl) (by rfl) T.n_tuple (by decide +kernel) (db_var 0 (pv 0) (.inl (by rfl)))))))))
  (ds_one (ds_ret gok0 rfl de_bl))
  ds_nil)
  (ds_cons (ds_if gok0 (PW.pt (dw_and (dt_val (de_isi "list" T.n_isinstance (by rfl) (by rfl) T.n_list (by decide +kernel) (db_var 1 (pv 1) (.inl (by rfl))))) (dw_and1 (dt_not (dt_val (de_isi "list" T.n_isinstance (by rfl) (by rfl) T.n_list (by decide +kernel) (db_var 0 (pv 0) (.inl (by rfl)))))))))
  (ds_one (ds_ret gok0 rfl de_bl))
  ds_nil)
  (ds_cons (ds_if gok0 (PW.pt (dw_or (dt_val (de_isi "tuple" T.n_isinstance (by rfl) (by rfl) T.n_tuple (by decide +kernel) (db_var 1 (pv 1) (.inl (by rfl))))) (dw_or1 (dt_val (de_isi "list" T.n_isinstance (by rfl) (by rfl) T.n_list (by decide +kernel) (db_var 1 (pv 1) (.inl (by rfl))))))))
  (ds_cons (ds_if gok0 (dt_cmp (or_ne hr.units) os_ne (db_of (de_bltn call_len cs_len (by rfl) T.n_len (by decide +kernel) (dm_bor (db_var 0 (pv 0) (.inl (by rfl))) dm_nil))) (db_of (de_bltn call_len cs_len (by rfl) T.n_len (by decide +kernel) (dm_bor (db_var 1 (pv 1) (.inl (by rfl))) dm_nil))) (nomark _))
  (ds_one (ds_ret gok0 rfl de_bl))
  ds_nil)
  (ds_cons (ds_for gok0 (passes_of rfl) rfl (di_rng1 T.n_range (by rfl) (da_cons (de_bltn call_len cs_len (by rfl) T.n_len (by decide +kernel) (dm_bor (db_var 1 (pv 1) (.inl (by rfl))) dm_nil)) da_nil)) (dg_name 2 sc_l_same.nd rfl (by first | exact Or.inl rfl | exact Or.inr rfl))
  (ds_one (ds_if gok0 (dt_not (dt_val (de_callV (ih T) (takes_of rfl rfl rfl rfl) hr (by rfl) T.g_l_same T.F_l_same.kp T.b_l_same (dm_val (de_ix (db_var 0 (pv 0) (.inl (by rfl))) (db_var 2 (pv 2) (.inl (by rfl))) (fun _ _ => rfl)) (dm_val (de_ix (db_var 1 (pv 1) (.inl (by rfl))) (db_var 2 (pv 2) (.inl (by rfl))) (fun _ _ => rfl)) dm_nil)))))
  (ds_one (ds_ret gok0 rfl de_bl))
  ds_nil)))
  (ds_one (ds_ret gok0 rfl de_bl))))
  ds_nil)
  (ds_one (ds_ret gok0 rfl de_bl)))))))))
theorem ok_l_names (T : Txt K mg) : FnOk P w K mg base (L2.CX P w) 1 T.f_l_names T.fd_l_names [] (spD K T.cm [] false F_l_names)   := dok (G' := []) (k := 0) T.F_l_names sc_l_names rfl (by decide) fun cdv A outer s H E hr =>
  (ds_one (ds_ret gok0 rfl (de_pub (de_lst (da_cons (de_strL (by decide +kernel)) (da_cons (de_strL (by decide +kernel)) (da_cons (de_strL (by decide +kernel)) (da_cons (de_strL (by decide +kernel)) (da_cons (de_strL (by decide +kernel)) (da_cons (de_strL (by decide +kernel)) (da_cons (de_strL (by decide +kernel)) (da_cons (de_strL (by decide +kernel)) (da_cons (de_strL (by decide +kernel)) (da_cons (de_strL (by decide +kernel)) (da_cons (de_strL (by decide +kernel)) da_nil)))))))))))))))
theorem ok_l_bounds (T : Txt K mg) : FnOk P w K mg base (L2.CX P w) 1 T.f_l_bounds T.fd_l_bounds ["_law_k"] (spD K T.cm [false] false F_l_bounds)   := dok (G' := []) (k := 0) T.F_l_bounds sc_l_bounds rfl (by decide) fun cdv A outer s H E hr =>
  (ds_one (ds_ret gok0 rfl (de_tup (da_cons (de_ix (db_own (de_lst (da_cons de_int (da_cons de_int (da_cons de_int (da_cons de_int (da_cons de_int (da_cons de_int (da_cons de_int (da_cons de_int (da_cons de_int (da_cons de_int da_nil)))))))))))) (db_var 0 (pv 0) (.inl (by rfl))) (fun _ _ => rfl)) (da_cons (de_ix (db_own (de_lst (da_cons de_int (da_cons de_int (da_cons de_int (da_cons de_int (da_cons de_int (da_cons de_int (da_cons de_int (da_cons de_int (da_cons de_int (da_cons de_int da_nil)))))))))))) (db_var 0 (pv 0) (.inl (by rfl))) (fun _ _ => rfl)) da_nil)))))
theorem ok_l_values (T : Txt K mg) : FnOk P w K mg base (L2.CX P w) 2 T.f_l_values T.fd_l_values ["_law_row_here"] (spD K T.cm [false] false F_l_values)   := dok (G' := []) (k := 1) T.F_l_values sc_l_values rfl (by decide) fun cdv A outer s H E hr =>
  (ds_cons (ds_setO 1 gok0 (show 1 < 6 by decide) sc_l_values.nd rfl (by first | exact Or.inl rfl | exact Or.inr rfl) (de_lst da_nil))
  (ds_cons (ds_for gok0 (passes_of rfl) rfl (di_rng1 T.n_range (by rfl) (da_cons de_int da_nil)) (dg_name 2 sc_l_values.nd rfl (by first | exact Or.inl rfl | exact Or.inr rfl))
  (ds_cons (ds_asg gok0 (de_callV (ok_l_bounds T) (takes_of rfl rfl rfl rfl) (hr.mono (by decide)) (by rfl) T.g_l_bounds T.F_l_bounds.kp T.b_l_bounds (dm_val (de_var 2 (pv 2) rfl) dm_nil)) (dg_tup rfl (dg_cons (dg_name 3 sc_l_values.nd rfl (by first | exact Or.inl rfl | exact Or.inr rfl)) (dg_cons (dg_name 4 sc_l_values.nd rfl (by first | exact Or.inl rfl | exact Or.inr rfl)) dg_nil))))
  (ds_cons (ds_set 5 gok0 sc_l_values.nd rfl (by first | exact Or.inl rfl | exact Or.inr rfl) (de_op or_add os_add (db_var 3 (pv 3) (.inl (by rfl))) (db_of (de_op op_mod os_mod (db_of (de_type cr_int cs_int (by rfl) T.n_int (by decide +kernel) (dm_bor (db_of (de_ix (db_var 0 (pv 0) (.inl (by rfl))) (db_of (de_op or_add os_add (db_of (de_op or_mulX os_mulX (db_of de_int) (db_var 2 (pv 2) (.inl (by rfl))))) (db_of de_int))) (fun _ _ => rfl))) dm_nil))) (db_of (de_op or_add os_add (db_of (de_op op_sub os_sub (db_var 4 (pv 4) (.inl (by rfl))) (db_var 3 (pv 3) (.inl (by rfl))))) (db_of de_int)))))))
  (ds_cons (ds_if gok0 (dt_cmp (or_eq hr.units) os_eq (db_of (de_ix (db_var 0 (pv 0) (.inl (by rfl))) (db_of (de_op or_mulX os_mulX (db_of de_int) (db_var 2 (pv 2) (.inl (by rfl))))) (fun _ _ => rfl))) (db_of de_int) (nomark _))
  (ds_one (ds_set 5 gok0 sc_l_values.nd rfl (by first | exact Or.inl rfl | exact Or.inr rfl) (de_var 3 (pv 3) rfl)))
  ds_nil)
  (ds_cons (ds_if gok0 (dt_cmp (or_eq hr.units) os_eq (db_of (de_ix (db_var 0 (pv 0) (.inl (by rfl))) (db_of (de_op or_mulX os_mulX (db_of de_int) (db_var 2 (pv 2) (.inl (by rfl))))) (fun _ _ => rfl))) (db_of de_int) (nomark _))
  (ds_one (ds_set 5 gok0 sc_l_values.nd rfl (by first | exact Or.inl rfl | exact Or.inr rfl) (de_var 4 (pv 4) rfl)))
  ds_nil)
  (ds_one (ds_app 1 gok0 rfl (pv 1) (de_var 5 (pv 5) rfl))))))))
  (ds_one (ds_ret gok0 rfl (de_op or_add os_add (db_var 1 (pv 1) (.inr (.inl (by trivial)))) (db_own (de_lst (da_cons (de_cmp (or_eq hr.units) os_eq (db_of (de_ix (db_var 0 (pv 0) (.inl (by rfl))) (db_of de_int) (fun _ _ => rfl))) (db_of de_int) (nomark _)) da_nil))))))))
theorem ok_l_odd (T : Txt K mg) : FnOk P w K mg base (L2.CX P w) 2 T.f_l_odd T.fd_l_odd ["_law_k", "_law_pick"] (spD K T.cm [false, false] false F_l_odd)   := dok (G' := []) (k := 1) T.F_l_odd sc_l_odd rfl (by decide) fun cdv A outer s H E hr =>
  (ds_cons (ds_if gok0 (dt_cmp (or_eq hr.units) os_eq (db_var 0 (pv 0) (.inl (by rfl))) (db_of de_int) (nomark _))
  (ds_one (ds_ret gok0 rfl (de_ix (db_own (de_lst (da_cons de_int (da_cons de_int (da_cons de_non (da_cons (de_strL (by decide +kernel)) (da_cons (de_tup (da_cons de_bl da_nil)) (da_cons (de_neg de_int) (da_cons de_int (da_cons (de_strL (by decide +kernel)) (da_cons (de_tup da_nil) da_nil))))))))))) (db_var 1 (pv 1) (.inl (by rfl))) (fun _ _ => rfl))))
  ds_nil)
  (ds_cons (ds_asg gok0 (de_callV (ok_l_bounds T) (takes_of rfl rfl rfl rfl) (hr.mono (by decide)) (by rfl) T.g_l_bounds T.F_l_bounds.kp T.b_l_bounds (dm_val (de_var 0 (pv 0) rfl) dm_nil)) (dg_tup rfl (dg_cons (dg_name 2 sc_l_odd.nd rfl (by first | exact Or.inl rfl | exact Or.inr rfl)) (dg_cons (dg_name 3 sc_l_odd.nd rfl (by first | exact Or.inl rfl | exact Or.inr rfl)) dg_nil))))
  (ds_one (ds_ret gok0 rfl (de_ix (db_own (de_lst (da_cons (de_op op_sub os_sub (db_var 2 (pv 2) (.inl (by rfl))) (db_of de_int)) (da_cons (de_op or_add os_add (db_var 3 (pv 3) (.inl (by rfl))) (db_of de_int)) (da_cons de_bl (da_cons de_bl (da_cons de_non (da_cons (de_strL (by decide +kernel)) (da_cons (de_tup (da_cons de_int da_nil)) (da_cons (de_neg de_int) (da_cons (de_op op_pow os_pow (db_of de_int) (db_of de_int)) da_nil))))))))))) (db_var 1 (pv 1) (.inl (by rfl))) (fun _ _ => rfl))))))
theorem ok_l_fits (T : Txt K mg) : FnOk P w K mg base (L2.CX P w) 2 T.f_l_fits T.fd_l_fits ["_law_k", "_law_value"] (spD K T.cm [false, false] false F_l_fits)   := dok (G' := []) (k := 1) T.F_l_fits sc_l_fits rfl (by decide) fun cdv A outer s H E hr =>
  (ds_cons (ds_if gok0 (dt_cmp (or_eq hr.units) os_eq (db_var 0 (pv 0) (.inl (by rfl))) (db_of de_int) (nomark _))
  (ds_one (ds_ret gok0 rfl (de_isi "bool" T.n_isinstance (by rfl) (by rfl) T.n_bool (by decide +kernel) (db_var 1 (pv 1) (.inl (by rfl))))))
  ds_nil)
  (ds_one (ds_ret gok0 rfl (de_and (de_callV (ok_l_number T) (takes_of rfl rfl rfl rfl) (hr.mono (by decide)) (by rfl) T.g_l_number T.F_l_number.kp T.b_l_number (dm_val (de_var 1 (pv 1) rfl) dm_nil)) (de_one (de_chain or_le os_ord or_le os_ord (db_of (de_ix (db_of (de_callV (ok_l_bounds T) (takes_of rfl rfl rfl rfl) (hr.mono (by decide)) (by rfl) T.g_l_bounds T.F_l_bounds.kp T.b_l_bounds (dm_val (de_var 0 (pv 0) rfl) dm_nil))) (db_of de_int) (fun _ _ => rfl))) (db_var 1 (pv 1) (.inl (by rfl))) (db_of (de_ix (db_of (de_callV (ok_l_bounds T) (takes_of rfl rfl rfl rfl) (hr.mono (by decide)) (by rfl) T.g_l_bounds T.F_l_bounds.kp T.b_l_bounds (dm_val (de_var 0 (pv 0) rfl) dm_nil))) (db_of de_int) (fun _ _ => rfl)))))))))
theorem ok_l_due (T : Txt K mg) : FnOk P w K mg base (L2.CX P w) 3 T.f_l_due T.fd_l_due ["_law_values_here"] (spD K T.cm [false] false F_l_due)   := dok (G' := []) (k := 2) T.F_l_due sc_l_due rfl (by decide) fun cdv A outer s H E hr =>
  (ds_cons (ds_for gok0 (passes_of rfl) rfl (di_rng1 T.n_range (by rfl) (da_cons de_int da_nil)) (dg_name 1 sc_l_due.nd rfl (by first | exact Or.inl rfl | exact Or.inr rfl))
  (ds_one (ds_if gok0 (dt_not (dt_val (de_callV (ok_l_fits T) (takes_of rfl rfl rfl rfl) (hr.mono (by decide)) (by rfl) T.g_l_fits T.F_l_fits.kp T.b_l_fits (dm_val (de_var 1 (pv 1) rfl) (dm_val (de_ix (db_var 0 (pv 0) (.inl (by rfl))) (db_var 1 (pv 1) (.inl (by rfl))) (fun _ _ => rfl)) dm_nil)))))
  (ds_one (ds_ret gok0 rfl (de_tup (da_cons (de_strL (by decide +kernel)) (da_cons (de_ix (db_of (de_call0 (rm := false) (ok_l_names T) (takes_of rfl rfl rfl rfl) (hr.mono (by decide)) (by rfl) T.g_l_names T.F_l_names.kp T.b_l_names)) (db_var 1 (pv 1) (.inl (by rfl))) (fun _ _ => rfl)) (da_cons de_bl da_nil))))))
  ds_nil)))
  (ds_one (ds_ret gok0 rfl (de_pub (de_type call_list_of cs_list (by rfl) T.n_list (by decide +kernel) (dm_bor (db_var 0 (pv 0) (.inl (by rfl))) dm_nil))))))
theorem ok_l_told (T : Txt K mg) : FnOk P w K mg base (L2.CX P w) 1 T.f_l_told T.fd_l_told ["_law_book_here"] (spD K T.cm [false] false F_l_told)   := dok (G' := []) (k := 0) T.F_l_told sc_l_told rfl (by decide) fun cdv A outer s H E hr =>
  (ds_cons (ds_set 1 gok0 sc_l_told.nd rfl (by first | exact Or.inl rfl | exact Or.inr rfl) (de_pub (de_lst (da_cons (de_fld T.cm_Book T.cl_Book T.na_Book_joint (db_var 0 (pv 0) (.inl (by rfl)))) (da_cons (de_fld T.cm_Book T.cl_Book T.na_Book_over (db_var 0 (pv 0) (.inl (by rfl)))) (da_cons (de_fld T.cm_Book T.cl_Book T.na_Book_keep (db_var 0 (pv 0) (.inl (by rfl)))) (da_cons (de_fld T.cm_Book T.cl_Book T.na_Book_orphan (db_var 0 (pv 0) (.inl (by rfl)))) (da_cons (de_fld T.cm_Book T.cl_Book T.na_Book_widow (db_var 0 (pv 0) (.inl (by rfl)))) (da_cons (de_fld T.cm_Book T.cl_Book T.na_Book_wait (db_var 0 (pv 0) (.inl (by rfl)))) da_nil)))))))))
  (ds_one (ds_ret gok0 rfl (de_op or_add os_add (db_of (de_op or_add os_add (db_own (de_lst (da_cons (de_fld T.cm_Book T.cl_Book T.na_Book_room (db_var 0 (pv 0) (.inl (by rfl)))) (da_cons (de_fld T.cm_Book T.cl_Book T.na_Book_height (db_var 0 (pv 0) (.inl (by rfl)))) da_nil)))) (db_var 1 (pv 1) (.inl (by rfl))))) (db_own (de_lst (da_cons (de_fld T.cm_Book T.cl_Book T.na_Book_columns (db_var 0 (pv 0) (.inl (by rfl)))) (da_cons (de_fld T.cm_Book T.cl_Book T.na_Book_gutter (db_var 0 (pv 0) (.inl (by rfl)))) (da_cons (de_fld T.cm_Book T.cl_Book T.na_Book_full (db_var 0 (pv 0) (.inl (by rfl)))) da_nil)))))))))
theorem ok_l_book (T : Txt K mg) : FnOk P w K mg base (L2.CX P w) 5 T.f_l_book T.fd_l_book ["_law_v"] (spD K T.cm [false] true F_l_book)   := dok (G' := []) (k := 4) T.F_l_book sc_l_book rfl (by decide) fun cdv A outer s H E hr =>
  (ds_one (ds_retO gok0 rfl (de_makeG (ms1 := [false, false]) (ms2 := [false, false, false, false, false, false, false, false, false]) (ms3 := [false, false, false, false, false, false, false, false, false]) [(0, 0), (0, 1), (1, 0), (1, 1), (1, 2), (1, 3), (1, 4), (1, 5), (1, 6), (1, 7), (1, 8)] T.mk_Book (ok_Book_init T) (takes_of rfl rfl rfl rfl) (hr.mono (by decide)) (by rfl) T.g_Book T.kbg_Book_init_0 (fun S H => ⟨.int _, .int _, .int _, .int _, .int _, .int _, .int _, .int _, .bl _, trivial⟩) (dm_val (de_ix (db_var 0 (pv 0) (.inl (by rfl))) (db_of de_int) (fun _ _ => rfl)) (dm_val (de_ix (db_var 0 (pv 0) (.inl (by rfl))) (db_of de_int) (fun _ _ => rfl)) dm_nil)) (dk_val (de_ix (db_var 0 (pv 0) (.inl (by rfl))) (db_of de_int) (fun _ _ => rfl)) (dk_val (de_ix (db_var 0 (pv 0) (.inl (by rfl))) (db_of de_int) (fun _ _ => rfl)) (dk_val (de_ix (db_var 0 (pv 0) (.inl (by rfl))) (db_of de_int) (fun _ _ => rfl)) (dk_val (de_ix (db_var 0 (pv 0) (.inl (by rfl))) (db_of de_int) (fun _ _ => rfl)) (dk_val (de_ix (db_var 0 (pv 0) (.inl (by rfl))) (db_of de_int) (fun _ _ => rfl)) (dk_val (de_ix (db_var 0 (pv 0) (.inl (by rfl))) (db_of de_int) (fun _ _ => rfl)) (dk_val (de_ix (db_var 0 (pv 0) (.inl (by rfl))) (db_of de_int) (fun _ _ => rfl)) (dk_val (de_ix (db_var 0 (pv 0) (.inl (by rfl))) (db_of de_int) (fun _ _ => rfl)) (dk_val (de_ix (db_var 0 (pv 0) (.inl (by rfl))) (db_of de_int) (fun _ _ => rfl)) dk_nil))))))))))))
theorem ok_l_made (T : Txt K mg) : FnOk P w K mg base (L2.CX P w) 6 T.f_l_made T.fd_l_made ["_law_v"] (spD K T.cm [false] false F_l_made)   := dok (k := 5) T.F_l_made sc_l_made rfl (by decide) fun cdv A outer s H E hr =>
  (ds_one (ds_try (isM := isM_BadBook) (Gs := [.v, .v]) gok0 rfl rfl sc_l_made.nd rfl rfl ⟨by rfl, by decide, .inl T.g_BadBook⟩ (takes_of rfl rfl rfl rfl) (by decide) T.exm_BadBook (fun W pn xe tk po => (ds_one (ds_ret gokT rfl (de_callV (ok_l_told T) tk (hr.mono (by decide)) (by rfl) T.g_l_told T.F_l_told.kp T.b_l_told (dm_val (de_pub (de_callO (ok_l_book T) tk (hr.mono (by decide)) (by rfl) T.g_l_book T.F_l_book.kp T.b_l_book (dm_val (de_var 0 (pv 0) rfl) dm_nil))) dm_nil)))))
  (fun a C dd oe pn hin hz hf => (ds_one (ds_ret gokC rfl (de_tup (da_cons (de_strL (by decide +kernel)) (da_cons (de_xf (T.xf_of_BadBook hin) (T.no_of_BadBook_field hin) rfl hz hf (pv 1)) (da_cons (de_and (de_isX (v := .ref T.a_LaidError) (cv := .ref T.a_LaidError) (isM := isM_LaidError) rfl (T.xc_of_BadBook hin) hz hf (fun _ h => h) (fun n b h1 h2 => T.isi_LaidError n _ b h1 h2) T.n_isinstance (by rfl) (pv 1) (pe_glob (by rfl) T.g_LaidError rfl)) (de_and (de_isX (v := .ty "ValueError") (cv := .type "ValueError") (isM := isM_ValueError) rfl (T.xc_of_BadBook hin) hz hf (fun _ h => h) (fun n b h1 h2 => T.isi_ValueError n _ b h1 h2) T.n_isinstance (by rfl) (pv 1) (pe_bltn (u := .type "ValueError") (by rfl) T.n_ValueError (by decide +kernel) rfl)) (de_one (de_not (de_isX (v := .ref T.a_TooLarge) (cv := .ref T.a_TooLarge) (isM := isM_TooLarge) rfl (T.xc_of_BadBook hin) hz hf (fun _ h => h) (fun n b h1 h2 => T.isi_TooLarge n _ b h1 h2) T.n_isinstance (by rfl) (pv 1) (pe_glob (by rfl) T.g_TooLarge rfl)))))) da_nil))))))) rfl rfl))
theorem ok_l_one_changed (T : Txt K mg) : FnOk P w K mg base (L2.CX P w) 6 T.f_l_one_changed T.fd_l_one_changed ["_law_book_here", "_law_k", "_law_value"] (spD K T.cm [false, false, false] true F_l_one_changed)   := dok (G' := []) (k := 5) T.F_l_one_changed sc_l_one_changed rfl (by decide) fun cdv A outer s H E hr =>
  (ds_cons (ds_if gok0 (dt_cmp (or_eq hr.units) os_eq (db_var 1 (pv 1) (.inl (by rfl))) (db_of de_int) (nomark _))
  (ds_one (ds_retO gok0 rfl (de_methKW (rm := true) (ks := ["room"]) T.cm_Book T.cl_Book T.m_Book_changed (ok_Book_changed T) (takes_of rfl rfl rfl rfl) (hr.mono (by decide)) (db_var 0 (pv 0) (.inl (by rfl))) (dk_val (de_var 2 (pv 2) rfl) dk_nil) (by decide) (by decide) (by decide))))
  ds_nil)
  (ds_cons (ds_if gok0 (dt_cmp (or_eq hr.units) os_eq (db_var 1 (pv 1) (.inl (by rfl))) (db_of de_int) (nomark _))
  (ds_one (ds_retO gok0 rfl (de_methKW (rm := true) (ks := ["height"]) T.cm_Book T.cl_Book T.m_Book_changed (ok_Book_changed T) (takes_of rfl rfl rfl rfl) (hr.mono (by decide)) (db_var 0 (pv 0) (.inl (by rfl))) (dk_val (de_var 2 (pv 2) rfl) dk_nil) (by decide) (by decide) (by decide))))
  ds_nil)
  (ds_cons (ds_if gok0 (dt_cmp (or_eq hr.units) os_eq (db_var 1 (pv 1) (.inl (by rfl))) (db_of de_int) (nomark _))
  (ds_one (ds_retO gok0 rfl (de_methKW (rm := true) (ks := ["joint"]) T.cm_Book T.cl_Book T.m_Book_changed (ok_Book_changed T) (takes_of rfl rfl rfl rfl) (hr.mono (by decide)) (db_var 0 (pv 0) (.inl (by rfl))) (dk_val (de_var 2 (pv 2) rfl) dk_nil) (by decide) (by decide) (by decide))))
  ds_nil)
  (ds_cons (ds_if gok0 (dt_cmp (or_eq hr.units) os_eq (db_var 1 (pv 1) (.inl (by rfl))) (db_of de_int) (nomark _))
  (ds_one (ds_retO gok0 rfl (de_methKW (rm := true) (ks := ["over"]) T.cm_Book T.cl_Book T.m_Book_changed (ok_Book_changed T) (takes_of rfl rfl rfl rfl) (hr.mono (by decide)) (db_var 0 (pv 0) (.inl (by rfl))) (dk_val (de_var 2 (pv 2) rfl) dk_nil) (by decide) (by decide) (by decide))))
  ds_nil)
  (ds_cons (ds_if gok0 (dt_cmp (or_eq hr.units) os_eq (db_var 1 (pv 1) (.inl (by rfl))) (db_of de_int) (nomark _))
  (ds_one (ds_retO gok0 rfl (de_methKW (rm := true) (ks := ["keep"]) T.cm_Book T.cl_Book T.m_Book_changed (ok_Book_changed T) (takes_of rfl rfl rfl rfl) (hr.mono (by decide)) (db_var 0 (pv 0) (.inl (by rfl))) (dk_val (de_var 2 (pv 2) rfl) dk_nil) (by decide) (by decide) (by decide))))
  ds_nil)
  (ds_cons (ds_if gok0 (dt_cmp (or_eq hr.units) os_eq (db_var 1 (pv 1) (.inl (by rfl))) (db_of de_int) (nomark _))
  (ds_one (ds_retO gok0 rfl (de_methKW (rm := true) (ks := ["orphan"]) T.cm_Book T.cl_Book T.m_Book_changed (ok_Book_changed T) (takes_of rfl rfl rfl rfl) (hr.mono (by decide)) (db_var 0 (pv 0) (.inl (by rfl))) (dk_val (de_var 2 (pv 2) rfl) dk_nil) (by decide) (by decide) (by decide))))
  ds_nil)
  (ds_cons (ds_if gok0 (dt_cmp (or_eq hr.units) os_eq (db_var 1 (pv 1) (.inl (by rfl))) (db_of de_int) (nomark _))
  (ds_one (ds_retO gok0 rfl (de_methKW (rm := true) (ks := ["widow"]) T.cm_Book T.cl_Book T.m_Book_changed (ok_Book_changed T) (takes_of rfl rfl rfl rfl) (hr.mono (by decide)) (db_var 0 (pv 0) (.inl (by rfl))) (dk_val (de_var 2 (pv 2) rfl) dk_nil) (by decide) (by decide) (by decide))))
  ds_nil)
  (ds_cons (ds_if gok0 (dt_cmp (or_eq hr.units) os_eq (db_var 1 (pv 1) (.inl (by rfl))) (db_of de_int) (nomark _))
  (ds_one (ds_retO gok0 rfl (de_methKW (rm := true) (ks := ["wait"]) T.cm_Book T.cl_Book T.m_Book_changed (ok_Book_changed T) (takes_of rfl rfl rfl rfl) (hr.mono (by decide)) (db_var 0 (pv 0) (.inl (by rfl))) (dk_val (de_var 2 (pv 2) rfl) dk_nil) (by decide) (by decide) (by decide))))
  ds_nil)
  (ds_cons (ds_if gok0 (dt_cmp (or_eq hr.units) os_eq (db_var 1 (pv 1) (.inl (by rfl))) (db_of de_int) (nomark _))
  (ds_one (ds_retO gok0 rfl (de_methKW (rm := true) (ks := ["columns"]) T.cm_Book T.cl_Book T.m_Book_changed (ok_Book_changed T) (takes_of rfl rfl rfl rfl) (hr.mono (by decide)) (db_var 0 (pv 0) (.inl (by rfl))) (dk_val (de_var 2 (pv 2) rfl) dk_nil) (by decide) (by decide) (by decide))))
  ds_nil)
  (ds_cons (ds_if gok0 (dt_cmp (or_eq hr.units) os_eq (db_var 1 (pv 1) (.inl (by rfl))) (db_of de_int) (nomark _))
  (ds_one (ds_retO gok0 rfl (de_methKW (rm := true) (ks := ["gutter"]) T.cm_Book T.cl_Book T.m_Book_changed (ok_Book_changed T) (takes_of rfl rfl rfl rfl) (hr.mono (by decide)) (db_var 0 (pv 0) (.inl (by rfl))) (dk_val (de_var 2 (pv 2) rfl) dk_nil) (by decide) (by decide) (by decide))))
  ds_nil)
  (ds_one (ds_retO gok0 rfl (de_methKW (rm := true) (ks := ["full"]) T.cm_Book T.cl_Book T.m_Book_changed (ok_Book_changed T) (takes_of rfl rfl rfl rfl) (hr.mono (by decide)) (db_var 0 (pv 0) (.inl (by rfl))) (dk_val (de_var 2 (pv 2) rfl) dk_nil) (by decide) (by decide) (by decide))))))))))))))
theorem ok_l_some_changed (T : Txt K mg) : FnOk P w K mg base (L2.CX P w) 6 T.f_l_some_changed T.fd_l_some_changed ["_law_book_here", "_law_way", "_law_v"] (spD K T.cm [false, false, false] true F_l_some_changed)   := dok (G' := []) (k := 5) T.F_l_some_changed sc_l_some_changed rfl (by decide) fun cdv A outer s H E hr =>
  (ds_cons (ds_if gok0 (dt_cmp (or_eq hr.units) os_eq (db_var 1 (pv 1) (.inl (by rfl))) (db_of de_int) (nomark _))
  (ds_one (ds_retO gok0 rfl (de_methKW (rm := true) (ks := ["gutter", "room", "wait"]) T.cm_Book T.cl_Book T.m_Book_changed (ok_Book_changed T) (takes_of rfl rfl rfl rfl) (hr.mono (by decide)) (db_var 0 (pv 0) (.inl (by rfl))) (dk_val (de_ix (db_var 2 (pv 2) (.inl (by rfl))) (db_of de_int) (fun _ _ => rfl)) (dk_val (de_ix (db_var 2 (pv 2) (.inl (by rfl))) (db_of de_int) (fun _ _ => rfl)) (dk_val (de_ix (db_var 2 (pv 2) (.inl (by rfl))) (db_of de_int) (fun _ _ => rfl)) dk_nil))) (by decide) (by decide) (by decide))))
  ds_nil)
  (ds_cons (ds_if gok0 (dt_cmp (or_eq hr.units) os_eq (db_var 1 (pv 1) (.inl (by rfl))) (db_of de_int) (nomark _))
  (ds_one (ds_retO gok0 rfl (de_methKW (rm := true) (ks := ["full", "over"]) T.cm_Book T.cl_Book T.m_Book_changed (ok_Book_changed T) (takes_of rfl rfl rfl rfl) (hr.mono (by decide)) (db_var 0 (pv 0) (.inl (by rfl))) (dk_val (de_ix (db_var 2 (pv 2) (.inl (by rfl))) (db_of de_int) (fun _ _ => rfl)) (dk_val (de_ix (db_var 2 (pv 2) (.inl (by rfl))) (db_of de_int) (fun _ _ => rfl)) dk_nil)) (by decide) (by decide) (by decide))))
  ds_nil)
  (ds_cons (ds_if gok0 (dt_cmp (or_eq hr.units) os_eq (db_var 1 (pv 1) (.inl (by rfl))) (db_of de_int) (nomark _))
  (ds_one (ds_retO gok0 rfl (de_methKW (rm := true) (ks := ["columns", "height", "keep", "joint"]) T.cm_Book T.cl_Book T.m_Book_changed (ok_Book_changed T) (takes_of rfl rfl rfl rfl) (hr.mono (by decide)) (db_var 0 (pv 0) (.inl (by rfl))) (dk_val (de_ix (db_var 2 (pv 2) (.inl (by rfl))) (db_of de_int) (fun _ _ => rfl)) (dk_val (de_ix (db_var 2 (pv 2) (.inl (by rfl))) (db_of de_int) (fun _ _ => rfl)) (dk_val (de_ix (db_var 2 (pv 2) (.inl (by rfl))) (db_of de_int) (fun _ _ => rfl)) (dk_val (de_ix (db_var 2 (pv 2) (.inl (by rfl))) (db_of de_int) (fun _ _ => rfl)) dk_nil)))) (by decide) (by decide) (by decide))))
  ds_nil)
  (ds_cons (ds_if gok0 (dt_cmp (or_eq hr.units) os_eq (db_var 1 (pv 1) (.inl (by rfl))) (db_of de_int) (nomark _))
  (ds_one (ds_retO gok0 rfl (de_methKW (rm := true) (ks := ["widow", "orphan", "full"]) T.cm_Book T.cl_Book T.m_Book_changed (ok_Book_changed T) (takes_of rfl rfl rfl rfl) (hr.mono (by decide)) (db_var 0 (pv 0) (.inl (by rfl))) (dk_val (de_ix (db_var 2 (pv 2) (.inl (by rfl))) (db_of de_int) (fun _ _ => rfl)) (dk_val (de_ix (db_var 2 (pv 2) (.inl (by rfl))) (db_of de_int) (fun _ _ => rfl)) (dk_val (de_ix (db_var 2 (pv 2) (.inl (by rfl))) (db_of de_int) (fun _ _ => rfl)) dk_nil))) (by decide) (by decide) (by decide))))
  ds_nil)
  (ds_one (ds_retO gok0 rfl (de_methKW (rm := true) (ks := []) T.cm_Book T.cl_Book T.m_Book_changed (ok_Book_changed T) (takes_of rfl rfl rfl rfl) (hr.mono (by decide)) (db_var 0 (pv 0) (.inl (by rfl))) dk_nil (by decide) (by decide) (by decide))))))))
theorem ok_l_some_due (T : Txt K mg) : FnOk P w K mg base (L2.CX P w) 4 T.f_l_some_due T.fd_l_some_due ["_law_values_here", "_law_way", "_law_v"] (spD K T.cm [false, false, false] false F_l_some_due)   := dok (G' := []) (k := 3) T.F_l_some_due sc_l_some_due rfl (by decide) fun cdv A outer s H E hr =>
  (ds_cons (ds_setO 3 gok0 (show 3 < 5 by decide) sc_l_some_due.nd rfl (by first | exact Or.inl rfl | exact Or.inr rfl) (de_type call_list_of cs_list (by rfl) T.n_list (by decide +kernel) (dm_bor (db_var 0 (pv 0) (.inl (by rfl))) dm_nil)))
  (ds_cons (ds_for gok0 (passes_of rfl) rfl (di_list (de_ix (db_own (de_lst (da_cons (de_pub (de_lst (da_cons de_int (da_cons de_int (da_cons de_int da_nil))))) (da_cons (de_pub (de_lst (da_cons de_int (da_cons de_int da_nil)))) (da_cons (de_pub (de_lst (da_cons de_int (da_cons de_int (da_cons de_int (da_cons de_int da_nil)))))) (da_cons (de_pub (de_lst (da_cons de_int (da_cons de_int (da_cons de_int da_nil))))) (da_cons (de_pub (de_lst da_nil)) da_nil))))))) (db_var 1 (pv 1) (.inl (by rfl))) (fun _ _ => rfl))) (dg_name 4 sc_l_some_due.nd rfl (by first | exact Or.inl rfl | exact Or.inr rfl))
  (ds_one (ds_sto 3 gok0 rfl (pv 3) (de_var 4 (pv 4) rfl) (de_ix (db_var 2 (pv 2) (.inl (by rfl))) (db_var 4 (pv 4) (.inl (by rfl))) (fun _ _ => rfl)))))
  (ds_pub 3 (ds_one (ds_ret gok0 rfl (de_callV (ok_l_due T) (takes_of rfl rfl rfl rfl) (hr.mono (by decide)) (by rfl) T.g_l_due T.F_l_due.kp T.b_l_due (dm_val (de_var 3 (pv 3) rfl) dm_nil)))) (.inl rfl))))
theorem ok_l_changes_are (T : Txt K mg) : FnOk P w K mg base (L2.CX P w) 10 T.f_l_changes_are T.fd_l_changes_are ["_law_book_here", "_law_values_here", "_law_pick", "_law_v"] (spD K T.cm [false, false, false, false] false F_l_changes_are)   := dok (G' := []) (k := 9) T.F_l_changes_are sc_l_changes_are rfl (by decide) fun cdv A outer s H E hr =>
  (ds_cons (ds_setO 4 gok0 (show 4 < 7 by decide) sc_l_changes_are.nd rfl (by first | exact Or.inl rfl | exact Or.inr rfl) (de_type call_list_of cs_list (by rfl) T.n_list (by decide +kernel) (dm_bor (db_var 1 (pv 1) (.inl (by rfl))) dm_nil)))
  (ds_cons (ds_sto 4 gok0 rfl (pv 4) (de_ix (db_var 2 (pv 2) (.inl (by rfl))) (db_of de_int) (fun _ _ => rfl)) (de_ix (db_var 3 (pv 3) (.inl (by rfl))) (db_of (de_ix (db_var 2 (pv 2) (.inl (by rfl))) (db_of de_int) (fun _ _ => rfl))) (fun _ _ => rfl)))
  (ds_cons (ds_try (isM := isM_BadBook) (Gs := [.v, .v, .v, .v, .o, .v, .v]) gok0 rfl rfl sc_l_changes_are.nd rfl rfl ⟨by rfl, by decide, .inl T.g_BadBook⟩ (takes_of rfl rfl rfl rfl) (by decide) T.exm_BadBook (fun W pn xe tk po => (ds_one (ds_set 5 gokT sc_l_changes_are.nd rfl (by first | exact Or.inl rfl | exact Or.inr rfl) (de_callV (ok_l_told T) tk (hr.mono (by decide)) (by rfl) T.g_l_told T.F_l_told.kp T.b_l_told (dm_val (de_pub (de_callO (ok_l_one_changed T) tk (hr.mono (by decide)) (by rfl) T.g_l_one_changed T.F_l_one_changed.kp T.b_l_one_changed (dm_val (de_var 0 (pv 0) rfl) (dm_val (de_ix (db_var 2 (pv 2) (.inl (by rfl))) (db_of de_int) (fun _ _ => rfl)) (dm_val (de_ix (db_var 3 (pv 3) (.inl (by rfl))) (db_of (de_ix (db_var 2 (pv 2) (.inl (by rfl))) (db_of de_int) (fun _ _ => rfl))) (fun _ _ => rfl)) dm_nil))))) dm_nil)))))
  (fun a C dd oe pn hin hz hf => (ds_one (ds_set 5 gokC sc_l_changes_are.nd rfl (by first | exact Or.inl rfl | exact Or.inr rfl) (de_tup (da_cons (de_strL (by decide +kernel)) (da_cons (de_xf (T.xf_of_BadBook hin) (T.no_of_BadBook_field hin) rfl hz hf (pv 6)) (da_cons (de_isX (v := .ref T.a_LaidError) (cv := .ref T.a_LaidError) (isM := isM_LaidError) rfl (T.xc_of_BadBook hin) hz hf (fun _ h => h) (fun n b h1 h2 => T.isi_LaidError n _ b h1 h2) T.n_isinstance (by rfl) (pv 6) (pe_glob (by rfl) T.g_LaidError rfl)) da_nil))))))) rfl rfl)
  (ds_pub 4 (ds_cons (ds_if gok0 (dt_not (dt_val (de_callV (ok_l_same (n := 8) T) (takes_of rfl rfl rfl rfl) (hr.mono (by decide)) (by rfl) T.g_l_same T.F_l_same.kp T.b_l_same (dm_val (de_var 5 (pv 5) rfl) (dm_val (de_callV (ok_l_due T) (takes_of rfl rfl rfl rfl) (hr.mono (by decide)) (by rfl) T.g_l_due T.F_l_due.kp T.b_l_due (dm_val (de_var 4 (pv 4) rfl) dm_nil)) dm_nil)))))
  (ds_one (ds_ret gok0 rfl de_bl))
  ds_nil)
  (ds_cons (ds_try (isM := isM_BadBook) (Gs := [.v, .v, .v, .v, .v, .v, .v]) gok0 rfl rfl sc_l_changes_are.nd rfl rfl ⟨by rfl, by decide, .inl T.g_BadBook⟩ (takes_of rfl rfl rfl rfl) (by decide) T.exm_BadBook (fun W pn xe tk po => (ds_one (ds_set 5 gokT sc_l_changes_are.nd rfl (by first | exact Or.inl rfl | exact Or.inr rfl) (de_callV (ok_l_told T) tk (hr.mono (by decide)) (by rfl) T.g_l_told T.F_l_told.kp T.b_l_told (dm_val (de_pub (de_callO (ok_l_some_changed T) tk (hr.mono (by decide)) (by rfl) T.g_l_some_changed T.F_l_some_changed.kp T.b_l_some_changed (dm_val (de_var 0 (pv 0) rfl) (dm_val (de_ix (db_var 2 (pv 2) (.inl (by rfl))) (db_of de_int) (fun _ _ => rfl)) (dm_val (de_var 3 (pv 3) rfl) dm_nil))))) dm_nil)))))
  (fun a C dd oe pn hin hz hf => (ds_one (ds_set 5 gokC sc_l_changes_are.nd rfl (by first | exact Or.inl rfl | exact Or.inr rfl) (de_tup (da_cons (de_strL (by decide +kernel)) (da_cons (de_xf (T.xf_of_BadBook hin) (T.no_of_BadBook_field hin) rfl hz hf (pv 6)) (da_cons (de_isX (v := .ref T.a_LaidError) (cv := .ref T.a_LaidError) (isM := isM_LaidError) rfl (T.xc_of_BadBook hin) hz hf (fun _ h => h) (fun n b h1 h2 => T.isi_LaidError n _ b h1 h2) T.n_isinstance (by rfl) (pv 6) (pe_glob (by rfl) T.g_LaidError rfl)) da_nil))))))) rfl rfl)
  (ds_one (ds_ret gok0 rfl (de_and (de_callV (ok_l_same (n := 8) T) (takes_of rfl rfl rfl rfl) (hr.mono (by decide)) (by rfl) T.g_l_same T.F_l_same.kp T.b_l_same (dm_val (de_var 5 (pv 5) rfl) (dm_val (de_callV (ok_l_some_due T) (takes_of rfl rfl rfl rfl) (hr.mono (by decide)) (by rfl) T.g_l_some_due T.F_l_some_due.kp T.b_l_some_due (dm_val (de_var 1 (pv 1) rfl) (dm_val (de_ix (db_var 2 (pv 2) (.inl (by rfl))) (db_of de_int) (fun _ _ => rfl)) (dm_val (de_var 3 (pv 3) rfl) dm_nil)))) dm_nil))) (de_one (de_callV (ok_l_same (n := 8) T) (takes_of rfl rfl rfl rfl) (hr.mono (by decide)) (by rfl) T.g_l_same T.F_l_same.kp T.b_l_same (dm_val (de_callV (ok_l_told T) (takes_of rfl rfl rfl rfl) (hr.mono (by decide)) (by rfl) T.g_l_told T.F_l_told.kp T.b_l_told (dm_val (de_var 0 (pv 0) rfl) dm_nil)) (dm_val (de_var 1 (pv 1) rfl) dm_nil))))))))) (.inl rfl)))))
theorem ok_l_strange (T : Txt K mg) : FnOk P w K mg base (L2.CX P w) 6 T.f_l_strange T.fd_l_strange ["_law_book_here", "_law_way"] (spD K T.cm [false, false] false F_l_strange)   := dok (G' := []) (k := 5) T.F_l_strange sc_l_strange rfl (by decide) fun cdv A outer s H E hr =>
  (ds_cons (ds_try (isM := isM_BadBook) (Gs := [.v, .v, .v]) gok0 rfl rfl sc_l_strange.nd rfl rfl ⟨by rfl, by decide, .inl T.g_BadBook⟩ (takes_of rfl rfl rfl rfl) (by decide) T.exm_BadBook (fun W pn xe tk po => (ds_cons (ds_if gokT (dt_cmp (or_eq hr.units) os_eq (db_var 1 (pv 1) (.inl (by rfl))) (db_of de_int) (nomark _))
  (ds_one (ds_expr gokT (de_pub (de_methKW (rm := true) (ks := ["zoom"]) T.cm_Book T.cl_Book T.m_Book_changed (ok_Book_changed T) tk (hr.mono (by decide)) (db_var 0 (pv 0) (.inl (by rfl))) (dk_val de_int dk_nil) (by decide) (by decide) (by decide)))))
  ds_nil)
  (ds_cons (ds_if gokT (dt_cmp (or_eq hr.units) os_eq (db_var 1 (pv 1) (.inl (by rfl))) (db_of de_int) (nomark _))
  (ds_one (ds_expr gokT (de_pub (de_methKW (rm := true) (ks := ["room", "zoom", "spread"]) T.cm_Book T.cl_Book T.m_Book_changed (ok_Book_changed T) tk (hr.mono (by decide)) (db_var 0 (pv 0) (.inl (by rfl))) (dk_val de_int (dk_val de_int (dk_val de_int dk_nil))) (by decide) (by decide) (by decide)))))
  ds_nil)
  (ds_cons (ds_if gokT (dt_cmp (or_eq hr.units) os_eq (db_var 1 (pv 1) (.inl (by rfl))) (db_of de_int) (nomark _))
  (ds_one (ds_expr gokT (de_pub (de_methKW (rm := true) (ks := ["spread", "full", "zoom"]) T.cm_Book T.cl_Book T.m_Book_changed (ok_Book_changed T) tk (hr.mono (by decide)) (db_var 0 (pv 0) (.inl (by rfl))) (dk_val de_int (dk_val de_non (dk_val de_int dk_nil))) (by decide) (by decide) (by decide)))))
  ds_nil)
  (ds_cons (ds_if gokT (dt_cmp (or_eq hr.units) os_eq (db_var 1 (pv 1) (.inl (by rfl))) (db_of de_int) (nomark _))
  (ds_one (ds_expr gokT (de_pub (de_methKW (rm := true) (ks := ["rooms", "room"]) T.cm_Book T.cl_Book T.m_Book_changed (ok_Book_changed T) tk (hr.mono (by decide)) (db_var 0 (pv 0) (.inl (by rfl))) (dk_val de_int (dk_val de_int dk_nil)) (by decide) (by decide) (by decide)))))
  ds_nil)
  (ds_one (ds_if gokT (dt_cmp (or_eq hr.units) os_eq (db_var 1 (pv 1) (.inl (by rfl))) (db_of de_int) (nomark _))
  (ds_one (ds_expr gokT (de_pub (de_methKW (rm := true) (ks := ["gutter", "columns", "zoom"]) T.cm_Book T.cl_Book T.m_Book_changed (ok_Book_changed T) tk (hr.mono (by decide)) (db_var 0 (pv 0) (.inl (by rfl))) (dk_val de_int (dk_val de_int (dk_val de_non dk_nil))) (by decide) (by decide) (by decide)))))
  ds_nil)))))))
  (fun a C dd oe pn hin hz hf => (ds_one (ds_ret gokC rfl (de_xf (T.xf_of_BadBook hin) (T.no_of_BadBook_field hin) rfl hz hf (pv 2))))) rfl rfl)
  (ds_one (ds_ret gok0 rfl de_non)))
theorem ok_law (T : Txt K mg) : FnOk P w K mg base (L2.CX P w) 11 T.f_law T.fd_law ["_law_script"] (spD K T.cm [false] false F_law)   := dok (G' := []) (k := 10) T.F_law sc_law rfl (by decide) fun cdv A outer s H E hr =>
  (ds_cons (ds_set 1 gok0 sc_law.nd rfl (by first | exact Or.inl rfl | exact Or.inr rfl) (de_callV (ok_l_values T) (takes_of rfl rfl rfl rfl) (hr.mono (by decide)) (by rfl) T.g_l_values T.F_l_values.kp T.b_l_values (dm_val (de_callV (ok_l_row T) (takes_of rfl rfl rfl rfl) (hr.mono (by decide)) (by rfl) T.g_l_row T.F_l_row.kp T.b_l_row (dm_val (de_callV (ok_l_cell T) (takes_of rfl rfl rfl rfl) (hr.mono (by decide)) (by rfl) T.g_l_cell T.F_l_cell.kp T.b_l_cell (dm_val (de_var 0 (pv 0) rfl) (dm_val de_int dm_nil))) (dm_val (de_op or_add os_add (db_of (de_op or_mulX os_mulX (db_own (de_lst (da_cons de_int (da_cons de_int da_nil)))) (db_of de_int))) (db_own (de_lst (da_cons de_int da_nil)))) dm_nil))) dm_nil)))
  (ds_cons (ds_set 2 gok0 sc_law.nd rfl (by first | exact Or.inl rfl | exact Or.inr rfl) (de_callV (ok_l_values T) (takes_of rfl rfl rfl rfl) (hr.mono (by decide)) (by rfl) T.g_l_values T.F_l_values.kp T.b_l_values (dm_val (de_callV (ok_l_row T) (takes_of rfl rfl rfl rfl) (hr.mono (by decide)) (by rfl) T.g_l_row T.F_l_row.kp T.b_l_row (dm_val (de_callV (ok_l_cell T) (takes_of rfl rfl rfl rfl) (hr.mono (by decide)) (by rfl) T.g_l_cell T.F_l_cell.kp T.b_l_cell (dm_val (de_var 0 (pv 0) rfl) (dm_val de_int dm_nil))) (dm_val (de_op or_add os_add (db_of (de_op or_mulX os_mulX (db_own (de_lst (da_cons de_int (da_cons de_int da_nil)))) (db_of de_int))) (db_own (de_lst (da_cons de_int da_nil)))) dm_nil))) dm_nil)))
  (ds_cons (ds_set 3 gok0 sc_law.nd rfl (by first | exact Or.inl rfl | exact Or.inr rfl) (de_callV (ok_l_row T) (takes_of rfl rfl rfl rfl) (hr.mono (by decide)) (by rfl) T.g_l_row T.F_l_row.kp T.b_l_row (dm_val (de_callV (ok_l_cell T) (takes_of rfl rfl rfl rfl) (hr.mono (by decide)) (by rfl) T.g_l_cell T.F_l_cell.kp T.b_l_cell (dm_val (de_var 0 (pv 0) rfl) (dm_val de_int dm_nil))) (dm_val (de_pub (de_lst (da_cons de_int (da_cons de_int (da_cons de_int (da_cons de_int (da_cons de_int (da_cons de_int (da_cons de_int (da_cons de_int (da_cons de_int da_nil))))))))))) dm_nil))))
  (ds_cons (ds_par4 4 5 6 7 gok0 rfl sc_law.nd rfl rfl rfl rfl (by decide) (by decide) (by decide) (by decide) (by decide) (by decide) (by first | exact Or.inl rfl | exact Or.inr rfl) (by first | exact Or.inl rfl | exact Or.inr rfl) (by first | exact Or.inl rfl | exact Or.inr rfl) (by first | exact Or.inl rfl | exact Or.inr rfl) (de_bltn (call_min2 rfl) cs_ints2 (by rfl) T.n_min (by decide +kernel) (dm_bor (db_of (de_ix (db_var 3 (pv 3) (.inl (by rfl))) (db_of de_int) (fun _ _ => rfl))) (dm_bor (db_of de_int) dm_nil))) (de_bltn (call_min2 rfl) cs_ints2 (by rfl) T.n_min (by decide +kernel) (dm_bor (db_of (de_ix (db_var 3 (pv 3) (.inl (by rfl))) (db_of de_int) (fun _ _ => rfl))) (dm_bor (db_of de_int) dm_nil))) (de_type call_list_of cs_list (by rfl) T.n_list (by decide +kernel) (dm_bor (db_var 2 (pv 2) (.inl (by rfl))) dm_nil)) (de_type call_list_of cs_list (by rfl) T.n_list (by decide +kernel) (dm_bor (db_var 1 (pv 1) (.inl (by rfl))) dm_nil)))
  (ds_cons (ds_if gok0 (dt_cmp or_lt os_ord (db_of (de_ix (db_var 3 (pv 3) (.inl (by rfl))) (db_of de_int) (fun _ _ => rfl))) (db_of de_int) (nomark _))
  (ds_cons (ds_sto 6 gok0 rfl (pv 6) (de_var 4 (pv 4) rfl) (de_callV (ok_l_odd T) (takes_of rfl rfl rfl rfl) (hr.mono (by decide)) (by rfl) T.g_l_odd T.F_l_odd.kp T.b_l_odd (dm_val (de_var 4 (pv 4) rfl) (dm_val (de_ix (db_var 3 (pv 3) (.inl (by rfl))) (db_of de_int) (fun _ _ => rfl)) dm_nil))))
  (ds_one (ds_sto 7 gok0 rfl (pv 7) (de_var 4 (pv 4) rfl) (de_callV (ok_l_odd T) (takes_of rfl rfl rfl rfl) (hr.mono (by decide)) (by rfl) T.g_l_odd T.F_l_odd.kp T.b_l_odd (dm_val (de_var 4 (pv 4) rfl) (dm_val (de_ix (db_var 3 (pv 3) (.inl (by rfl))) (db_of de_int) (fun _ _ => rfl)) dm_nil))))))
  ds_nil)
  (ds_cons (ds_if gok0 (dt_cmp (or_eq hr.units) os_eq (db_of (de_ix (db_var 3 (pv 3) (.inl (by rfl))) (db_of de_int) (fun _ _ => rfl))) (db_of de_int) (nomark _))
  (ds_cons (ds_sto 6 gok0 rfl (pv 6) (de_var 5 (pv 5) rfl) (de_callV (ok_l_odd T) (takes_of rfl rfl rfl rfl) (hr.mono (by decide)) (by rfl) T.g_l_odd T.F_l_odd.kp T.b_l_odd (dm_val (de_var 5 (pv 5) rfl) (dm_val (de_ix (db_var 3 (pv 3) (.inl (by rfl))) (db_of de_int) (fun _ _ => rfl)) dm_nil))))
  (ds_one (ds_sto 7 gok0 rfl (pv 7) (de_var 5 (pv 5) rfl) (de_callV (ok_l_odd T) (takes_of rfl rfl rfl rfl) (hr.mono (by decide)) (by rfl) T.g_l_odd T.F_l_odd.kp T.b_l_odd (dm_val (de_var 5 (pv 5) rfl) (dm_val (de_ix (db_var 3 (pv 3) (.inl (by rfl))) (db_of de_int) (fun _ _ => rfl)) dm_nil))))))
  ds_nil)
  (ds_pub 7 (ds_cons (ds_if gok0 (PW.pt (dw_or (dt_not (dt_val (de_callV (ok_l_same (n := 8) T) (takes_of rfl rfl rfl rfl) (hr.mono (by decide)) (by rfl) T.g_l_same T.F_l_same.kp T.b_l_same (dm_val (de_callV (ok_l_made T) (takes_of rfl rfl rfl rfl) (hr.mono (by decide)) (by rfl) T.g_l_made T.F_l_made.kp T.b_l_made (dm_val (de_var 7 (pv 7) rfl) dm_nil)) (dm_val (de_callV (ok_l_due T) (takes_of rfl rfl rfl rfl) (hr.mono (by decide)) (by rfl) T.g_l_due T.F_l_due.kp T.b_l_due (dm_val (de_var 7 (pv 7) rfl) dm_nil)) dm_nil))))) (dw_or1 (dt_not (dt_val (de_callV (ok_l_same (n := 8) T) (takes_of rfl rfl rfl rfl) (hr.mono (by decide)) (by rfl) T.g_l_same T.F_l_same.kp T.b_l_same (dm_val (de_callV (ok_l_made T) (takes_of rfl rfl rfl rfl) (hr.mono (by decide)) (by rfl) T.g_l_made T.F_l_made.kp T.b_l_made (dm_val (de_var 1 (pv 1) rfl) dm_nil)) (dm_val (de_var 1 (pv 1) rfl) dm_nil))))))))
  (ds_one (ds_ret gok0 rfl de_bl))
  ds_nil)
  (ds_cons (ds_par 8 9 gok0 rfl sc_law.nd rfl rfl (by decide) rfl rfl (de_pub (de_callO (ok_l_book T) (takes_of rfl rfl rfl rfl) (hr.mono (by decide)) (by rfl) T.g_l_book T.F_l_book.kp T.b_l_book (dm_val (de_var 1 (pv 1) rfl) dm_nil))) (de_pub (de_makeG (ms1 := [false, false]) (ms2 := []) (ms3 := [false, false, false, false, false, false, false, false, false]) [(0, 0), (0, 1), (2, 0), (2, 1), (2, 2), (2, 3), (2, 4), (2, 5), (2, 6), (2, 7), (2, 8)] T.mk_Book (ok_Book_init T) (takes_of rfl rfl rfl rfl) (hr.mono (by decide)) (by rfl) T.g_Book T.kbg_Book_init_1 (fun S H => ⟨.int _, .int _, .int _, .int _, .int _, .int _, .int _, .int _, .bl _, trivial⟩) (dm_val (de_ix (db_var 1 (pv 1) (.inl (by rfl))) (db_of de_int) (fun _ _ => rfl)) (dm_val (de_ix (db_var 1 (pv 1) (.inl (by rfl))) (db_of de_int) (fun _ _ => rfl)) dm_nil)) dk_nil)) (by rfl))
  (ds_cons (ds_if gok0 (dt_not (dt_val (de_callV (ok_l_same (n := 8) T) (takes_of rfl rfl rfl rfl) (hr.mono (by decide)) (by rfl) T.g_l_same T.F_l_same.kp T.b_l_same (dm_val (de_callV (ok_l_told T) (takes_of rfl rfl rfl rfl) (hr.mono (by decide)) (by rfl) T.g_l_told T.F_l_told.kp T.b_l_told (dm_val (de_var 9 (pv 9) rfl) dm_nil)) (dm_val (de_pub (de_lst (da_cons (de_ix (db_var 1 (pv 1) (.inl (by rfl))) (db_of de_int) (fun _ _ => rfl)) (da_cons (de_ix (db_var 1 (pv 1) (.inl (by rfl))) (db_of de_int) (fun _ _ => rfl)) (da_cons de_int (da_cons de_int (da_cons de_int (da_cons de_int (da_cons de_int (da_cons de_int (da_cons de_int (da_cons de_int (da_cons de_bl da_nil))))))))))))) dm_nil)))))
  (ds_one (ds_ret gok0 rfl de_bl))
  ds_nil)
  (ds_cons (ds_set 10 gok0 sc_law.nd rfl (by first | exact Or.inl rfl | exact Or.inr rfl) (de_pub (de_makeG0 (ms2 := [false, false, false, false, false]) (ms3 := [false, false, false, false, false, false, false, false, false]) [(1, 1), (1, 0), (2, 0), (2, 1), (1, 2), (2, 3), (2, 4), (2, 5), (2, 6), (1, 4), (1, 3)] T.mk_Book (ok_Book_init T) (takes_of rfl rfl rfl rfl) (hr.mono (by decide)) (by rfl) T.g_Book T.kbg_Book_init_2 (fun S H => ⟨.int _, .int _, .int _, .int _, .int _, .int _, .int _, .int _, .bl _, trivial⟩) (dk_val (de_ix (db_var 2 (pv 2) (.inl (by rfl))) (db_of de_int) (fun _ _ => rfl)) (dk_val (de_ix (db_var 2 (pv 2) (.inl (by rfl))) (db_of de_int) (fun _ _ => rfl)) (dk_val (de_ix (db_var 2 (pv 2) (.inl (by rfl))) (db_of de_int) (fun _ _ => rfl)) (dk_val (de_ix (db_var 2 (pv 2) (.inl (by rfl))) (db_of de_int) (fun _ _ => rfl)) (dk_val (de_ix (db_var 2 (pv 2) (.inl (by rfl))) (db_of de_int) (fun _ _ => rfl)) dk_nil))))))))
  (ds_cons (ds_if gok0 (dt_not (dt_val (de_callV (ok_l_same (n := 8) T) (takes_of rfl rfl rfl rfl) (hr.mono (by decide)) (by rfl) T.g_l_same T.F_l_same.kp T.b_l_same (dm_val (de_callV (ok_l_told T) (takes_of rfl rfl rfl rfl) (hr.mono (by decide)) (by rfl) T.g_l_told T.F_l_told.kp T.b_l_told (dm_val (de_var 10 (pv 10) rfl) dm_nil)) (dm_val (de_pub (de_lst (da_cons (de_ix (db_var 2 (pv 2) (.inl (by rfl))) (db_of de_int) (fun _ _ => rfl)) (da_cons (de_ix (db_var 2 (pv 2) (.inl (by rfl))) (db_of de_int) (fun _ _ => rfl)) (da_cons de_int (da_cons de_int (da_cons (de_ix (db_var 2 (pv 2) (.inl (by rfl))) (db_of de_int) (fun _ _ => rfl)) (da_cons de_int (da_cons de_int (da_cons de_int (da_cons de_int (da_cons (de_ix (db_var 2 (pv 2) (.inl (by rfl))) (db_of de_int) (fun _ _ => rfl)) (da_cons (de_ix (db_var 2 (pv 2) (.inl (by rfl))) (db_of de_int) (fun _ _ => rfl)) da_nil))))))))))))) dm_nil)))))
  (ds_one (ds_ret gok0 rfl de_bl))
  ds_nil)
  (ds_pub 6 (ds_cons (ds_if gok0 (PW.pt (dw_or (dt_not (dt_val (de_callV (ok_l_changes_are T) (takes_of rfl rfl rfl rfl) (hr.mono (by decide)) (by rfl) T.g_l_changes_are T.F_l_changes_are.kp T.b_l_changes_are (dm_val (de_var 8 (pv 8) rfl) (dm_val (de_var 1 (pv 1) rfl) (dm_val (de_var 3 (pv 3) rfl) (dm_val (de_var 6 (pv 6) rfl) dm_nil))))))) (dw_or1 (dt_not (dt_val (de_callV (ok_l_changes_are T) (takes_of rfl rfl rfl rfl) (hr.mono (by decide)) (by rfl) T.g_l_changes_are T.F_l_changes_are.kp T.b_l_changes_are (dm_val (de_var 8 (pv 8) rfl) (dm_val (de_var 1 (pv 1) rfl) (dm_val (de_var 3 (pv 3) rfl) (dm_val (de_var 2 (pv 2) rfl) dm_nil))))))))))
  (ds_one (ds_ret gok0 rfl de_bl))
  ds_nil)
  (ds_cons (ds_if gok0 (dt_cmp (or_ne hr.units) os_ne (db_of (de_callV (ok_l_strange T) (takes_of rfl rfl rfl rfl) (hr.mono (by decide)) (by rfl) T.g_l_strange T.F_l_strange.kp T.b_l_strange (dm_val (de_var 8 (pv 8) rfl) (dm_val (de_ix (db_var 3 (pv 3) (.inl (by rfl))) (db_of de_int) (fun _ _ => rfl)) dm_nil)))) (db_of (de_ix (db_own (de_lst (da_cons (de_strL (by decide +kernel)) (da_cons (de_strL (by decide +kernel)) (da_cons (de_strL (by decide +kernel)) (da_cons (de_strL (by decide +kernel)) (da_cons (de_strL (by decide +kernel)) da_nil))))))) (db_of (de_ix (db_var 3 (pv 3) (.inl (by rfl))) (db_of de_int) (fun _ _ => rfl))) (fun _ _ => rfl))) (nomark _))
  (ds_one (ds_ret gok0 rfl de_bl))
  ds_nil)
  (ds_cons (ds_par 11 12 gok0 rfl sc_law.nd rfl rfl (by decide) rfl rfl (de_pub (de_callO (ok_l_book T) (takes_of rfl rfl rfl rfl) (hr.mono (by decide)) (by rfl) T.g_l_book T.F_l_book.kp T.b_l_book (dm_val (de_var 1 (pv 1) rfl) dm_nil))) (de_pub (de_callO (ok_l_one_changed T) (takes_of rfl rfl rfl rfl) (hr.mono (by decide)) (by rfl) T.g_l_one_changed T.F_l_one_changed.kp T.b_l_one_changed (dm_val (de_var 8 (pv 8) rfl) (dm_val (de_ix (db_var 3 (pv 3) (.inl (by rfl))) (db_of de_int) (fun _ _ => rfl)) (dm_val (de_ix (db_var 2 (pv 2) (.inl (by rfl))) (db_of (de_ix (db_var 3 (pv 3) (.inl (by rfl))) (db_of de_int) (fun _ _ => rfl))) (fun _ _ => rfl)) dm_nil))))) (by rfl))
  (ds_cons (ds_set 13 gok0 sc_law.nd rfl (by first | exact Or.inl rfl | exact Or.inr rfl) (de_pub (de_lst (da_cons (de_tup (da_cons (de_var 8 (pv 8) rfl) (da_cons (de_var 11 (pv 11) rfl) (da_cons de_bl da_nil)))) (da_cons (de_tup (da_cons (de_var 11 (pv 11) rfl) (da_cons (de_var 12 (pv 12) rfl) (da_cons (de_cmp (or_eq hr.units) os_eq (db_of (de_ix (db_var 1 (pv 1) (.inl (by rfl))) (db_of (de_ix (db_var 3 (pv 3) (.inl (by rfl))) (db_of de_int) (fun _ _ => rfl))) (fun _ _ => rfl))) (db_of (de_ix (db_var 2 (pv 2) (.inl (by rfl))) (db_of (de_ix (db_var 3 (pv 3) (.inl (by rfl))) (db_of de_int) (fun _ _ => rfl))) (fun _ _ => rfl))) (nomark _)) da_nil)))) da_nil)))))
  (ds_cons (ds_for gok0 (passes_of rfl) rfl (di_list (de_op or_add os_add (db_var 13 (pv 13) (.inl (by rfl))) (db_own (de_lst (da_cons (de_tup (da_cons (de_var 8 (pv 8) rfl) (da_cons (de_var 9 (pv 9) rfl) (da_cons (de_cmp (or_eq hr.units) os_eq (db_of (de_callV (ok_l_told T) (takes_of rfl rfl rfl rfl) (hr.mono (by decide)) (by rfl) T.g_l_told T.F_l_told.kp T.b_l_told (dm_val (de_var 9 (pv 9) rfl) dm_nil))) (db_var 1 (pv 1) (.inl (by rfl))) (nomark _)) da_nil)))) da_nil))))) (dg_name 14 sc_law.nd rfl (by first | exact Or.inl rfl | exact Or.inr rfl))
  (ds_cons (ds_set 15 gok0 sc_law.nd rfl (by first | exact Or.inl rfl | exact Or.inr rfl) (de_cmp (op_cmpV (op := .Eq) (fun _ _ => rfl) T.m_Book___eq__ (ok_Book_eq T) (hr.mono (by decide)) T.b_Book_eq) (os_cmpV (rm := false) T.cm_Book T.ic_Book T.nf_Book T.nt_Book) (db_of (de_ix (db_var 14 (pv 14) (.inl (by rfl))) (db_of de_int) (fun _ _ => rfl))) (db_of (de_ix (db_var 14 (pv 14) (.inl (by rfl))) (db_of de_int) (fun _ _ => rfl))) (nomark _)))
  (ds_one (ds_if gok0 (PW.pt (dw_or (dt_not (dt_val (de_isi "bool" T.n_isinstance (by rfl) (by rfl) T.n_bool (by decide +kernel) (db_var 15 (pv 15) (.inl (by rfl)))))) (dw_or1 (dt_cmp (or_ne hr.units) os_ne (db_var 15 (pv 15) (.inl (by rfl))) (db_of (de_ix (db_var 14 (pv 14) (.inl (by rfl))) (db_of de_int) (fun _ _ => rfl))) (nomark _)))))
  (ds_one (ds_ret gok0 rfl de_bl))
  ds_nil))))
  (ds_cons (ds_if gok0 (PW.pt (dw_or (dt_cmp op_notBl os_notB (db_of (de_cmp (op_cmpV (op := .Eq) (fun _ _ => rfl) T.m_Book___eq__ (ok_Book_eq T) (hr.mono (by decide)) T.b_Book_eq) (os_cmpV (rm := false) T.cm_Book T.ic_Book T.nf_Book T.nt_Book) (db_var 8 (pv 8) (.inl (by rfl))) (db_own (de_type call_list_of cs_list (by rfl) T.n_list (by decide +kernel) (dm_bor (db_var 1 (pv 1) (.inl (by rfl))) dm_nil))) (nomark _))) (db_of de_bl) (nomark _)) (dw_or1 (dt_cmp op_notBl os_notB (db_of (de_cmp (op_cmpV (op := .Eq) (fun _ _ => rfl) T.m_Book___eq__ (ok_Book_eq T) (hr.mono (by decide)) T.b_Book_eq) (os_cmpV (rm := false) T.cm_Book T.ic_Book T.nf_Book T.nt_Book) (db_var 8 (pv 8) (.inl (by rfl))) (db_of (de_type call_tuple_of cs_tuple (by rfl) T.n_tuple (by decide +kernel) (dm_bor (db_var 1 (pv 1) (.inl (by rfl))) dm_nil))) (nomark _))) (db_of de_bl) (nomark _)))))
  (ds_one (ds_ret gok0 rfl de_bl))
  ds_nil)
  (ds_one (ds_ret gok0 rfl (de_and (de_callV (ok_l_same (n := 8) T) (takes_of rfl rfl rfl rfl) (hr.mono (by decide)) (by rfl) T.g_l_same T.F_l_same.kp T.b_l_same (dm_val (de_cval (v := .ref T.kv_Book_FIELDS) (by rfl) T.g_Book T.cr_Book T.cv_Book_FIELDS fun S => T.kvc_Book_FIELDS S) (dm_val (de_type call_tuple_of cs_tuple (by rfl) T.n_tuple (by decide +kernel) (dm_bor (db_of (de_call0 (rm := false) (ok_l_names T) (takes_of rfl rfl rfl rfl) (hr.mono (by decide)) (by rfl) T.g_l_names T.F_l_names.kp T.b_l_names)) dm_nil)) dm_nil))) (de_one (de_callV (ok_l_same (n := 8) T) (takes_of rfl rfl rfl rfl) (hr.mono (by decide)) (by rfl) T.g_l_same T.F_l_same.kp T.b_l_same (dm_val (de_callV (ok_l_told T) (takes_of rfl rfl rfl rfl) (hr.mono (by decide)) (by rfl) T.g_l_told T.F_l_told.kp T.b_l_told (dm_val (de_var 8 (pv 8) rfl) dm_nil)) (dm_val (de_var 1 (pv 1) rfl) dm_nil))))))))))))) (.inl rfl))))))) (.inl rfl))))))))
end
end Lk
end S_P_walk
section S_P_end
set_option Elab.async false
set_option linter.all false
set_option maxRecDepth 100000
set_option maxHeartbeats 4000000
namespace Lk
open PySem L2 Dx PySem.Spec PyProof.Rows
theorem txt_mk {K : PySem.W.Frag} {h : Heap} {mg : Str → Option Value} (X : K.In h) (G : h.Ns mainGlobals mg)
    {f0 : Addr} {oc0 kV0 dc0 pm0 cd0 ct0 : Value} {od0 an0 : Option Addr} {sl0 : Array (Option Value)}
    {f1 : Addr} {oc1 kV1 dc1 pm1 cd1 ct1 : Value} {od1 an1 : Option Addr} {sl1 : Array (Option Value)}
    {f2 : Addr} {oc2 dc2 pm2 cd2 ct2 : Value} {od2 an2 : Option Addr} {sl2 : Array (Option Value)}
    {kwD2 : Addr} {kwt2_0 kwt2_1 kwt2_2 kwt2_3 kwt2_4 kwt2_5 kwt2_6 kwt2_7 : Tok}
    {f3 : Addr} {oc3 kV3 dc3 pm3 cd3 ct3 : Value} {od3 an3 : Option Addr} {sl3 : Array (Option Value)}
    {f4 : Addr} {oc4 kV4 dc4 pm4 cd4 ct4 : Value} {od4 an4 : Option Addr} {sl4 : Array (Option Value)}
    {f5 : Addr} {oc5 kV5 dc5 pm5 cd5 ct5 : Value} {od5 an5 : Option Addr} {sl5 : Array (Option Value)}
    {f6 : Addr} {oc6 kV6 dc6 pm6 cd6 ct6 : Value} {od6 an6 : Option Addr} {sl6 : Array (Option Value)}
    {f7 : Addr} {oc7 kV7 dc7 pm7 cd7 ct7 : Value} {od7 an7 : Option Addr} {sl7 : Array (Option Value)}
    {f8 : Addr} {oc8 kV8 dc8 pm8 cd8 ct8 : Value} {od8 an8 : Option Addr} {sl8 : Array (Option Value)}
    {f9 : Addr} {oc9 kV9 dc9 pm9 cd9 ct9 : Value} {od9 an9 : Option Addr} {sl9 : Array (Option Value)}
    {f10 : Addr} {oc10 kV10 dc10 pm10 cd10 ct10 : Value} {od10 an10 : Option Addr} {sl10 : Array (Option Value)}
    {f11 : Addr} {oc11 kV11 dc11 pm11 cd11 ct11 : Value} {od11 an11 : Option Addr} {sl11 : Array (Option Value)}
    {f12 : Addr} {oc12 kV12 dc12 pm12 cd12 ct12 : Value} {od12 an12 : Option Addr} {sl12 : Array (Option Value)}
    {f13 : Addr} {oc13 kV13 dc13 pm13 cd13 ct13 : Value} {od13 an13 : Option Addr} {sl13 : Array (Option Value)}
    {f14 : Addr} {oc14 kV14 dc14 pm14 cd14 ct14 : Value} {od14 an14 : Option Addr} {sl14 : Array (Option Value)}
    {f15 : Addr} {oc15 kV15 dc15 pm15 cd15 ct15 : Value} {od15 an15 : Option Addr} {sl15 : Array (Option Value)}
    {f16 : Addr} {oc16 kV16 dc16 pm16 cd16 ct16 : Value} {od16 an16 : Option Addr} {sl16 : Array (Option Value)}
    {f17 : Addr} {oc17 kV17 dc17 pm17 cd17 ct17 : Value} {od17 an17 : Option Addr} {sl17 : Array (Option Value)}
    {f18 : Addr} {oc18 kV18 dc18 pm18 cd18 ct18 : Value} {od18 an18 : Option Addr} {sl18 : Array (Option Value)}
    {f19 : Addr} {oc19 kV19 dc19 pm19 cd19 ct19 : Value} {od19 an19 : Option Addr} {sl19 : Array (Option Value)}
    {f20 : Addr} {oc20 kV20 dc20 pm20 cd20 ct20 : Value} {od20 an20 : Option Addr} {sl20 : Array (Option Value)}
    {f21 : Addr} {oc21 kV21 dc21 pm21 cd21 ct21 : Value} {od21 an21 : Option Addr} {sl21 : Array (Option Value)}
    {f22 : Addr} {oc22 kV22 dc22 pm22 cd22 ct22 : Value} {od22 an22 : Option Addr} {sl22 : Array (Option Value)}
    {f23 : Addr} {oc23 kV23 dc23 pm23 cd23 ct23 : Value} {od23 an23 : Option Addr} {sl23 : Array (Option Value)}
    {kt_LEAST_0_0 : Tok}
    {kt_LEAST_0_1 : Tok}
    {kt_LEAST_0_2 : Tok}
    {kt_LEAST_0_3 : Tok}
    {kt_LEAST_0_4 : Tok}
    {kt_LEAST_0_5 : Tok}
    {kt_LEAST_0_6 : Tok}
    {kt_LEAST_0_7 : Tok}
    {kt_LEAST_0_8 : Tok}
    {kt_LEAST_0_9 : Tok}
    {kA_LEAST_0 : Addr} {kod_LEAST_0 : Option Addr} {kn_LEAST_0 : Nat} {ksl_LEAST_0 : Array (Option Value)}
    {kt_MOST_0_0 : Tok}
    {kt_MOST_0_1 : Tok}
    {kt_MOST_0_2 : Tok}
    {kt_MOST_0_3 : Tok}
    {kt_MOST_0_4 : Tok}
    {kt_MOST_0_5 : Tok}
    {kt_MOST_0_6 : Tok}
    {kt_MOST_0_7 : Tok}
    {kt_MOST_0_8 : Tok}
    {kt_MOST_0_9 : Tok}
    {kA_MOST_0 : Addr} {kod_MOST_0 : Option Addr} {kn_MOST_0 : Nat} {ksl_MOST_0 : Array (Option Value)}
    {A_BadBook : Addr}
    {A_LaidError : Addr}
    {A_TooLarge : Addr}
    {nm_BadBook qq_BadBook : Str} {N_BadBook fI_BadBook : Addr} {bs_BadBook bm_BadBook : List Value} {sn_BadBook : List Str} {sb_BadBook : List Value} {ab_BadBook : Bool} {co_BadBook : Option Bool} {dd_BadBook od_BadBook an_BadBook : Option Addr} {m0_BadBook m1_BadBook m2_BadBook m3_BadBook m5_BadBook : Option Value} {oc_BadBook kV_BadBook dc_BadBook pm_BadBook cd_BadBook ct_BadBook : Value} {sl_BadBook : Array (Option Value)}
    {A_Book : Addr}
    {kt_Book_FIELDS_0_0 : Tok}
    {kt_Book_FIELDS_0_1 : Tok}
    {kt_Book_FIELDS_0_2 : Tok}
    {kt_Book_FIELDS_0_3 : Tok}
    {kt_Book_FIELDS_0_4 : Tok}
    {kt_Book_FIELDS_0_5 : Tok}
    {kt_Book_FIELDS_0_6 : Tok}
    {kt_Book_FIELDS_0_7 : Tok}
    {kt_Book_FIELDS_0_8 : Tok}
    {kt_Book_FIELDS_0_9 : Tok}
    {kt_Book_FIELDS_0_10 : Tok}
    {kA_Book_FIELDS_0 : Addr} {kod_Book_FIELDS_0 : Option Addr} {kn_Book_FIELDS_0 : Nat} {ksl_Book_FIELDS_0 : Array (Option Value)}
    (a0 : PySem.W.nsIn K mainGlobals "is_number" = some (some (.ref f0)))
    (l0 : K.lookup f0 = some ⟨oc0, od0, .func (PySem.W.fnOf "is_number" "is_number" (defArgs s_is_number) (defBody s_is_number) (defScope s_is_number) .none kV0 dc0 pm0 an0 cd0 ct0), sl0⟩) (c0 : PySem.W.codeIn K cd0 "is_number" = true) (k0 : PySem.W.keepIn K (.ref f0) = true)
    (a1 : PySem.W.nsIn K mainGlobals "is_within" = some (some (.ref f1)))
    (l1 : K.lookup f1 = some ⟨oc1, od1, .func (PySem.W.fnOf "is_within" "is_within" (defArgs s_is_within) (defBody s_is_within) (defScope s_is_within) .none kV1 dc1 pm1 an1 cd1 ct1), sl1⟩) (c1 : PySem.W.codeIn K cd1 "is_within" = true) (k1 : PySem.W.keepIn K (.ref f1) = true)
    (l2 : K.lookup f2 = some ⟨oc2, od2, .func (PySem.W.fnOf "__init__" "Book.__init__" (defArgs s_Book_init) (defBody s_Book_init) (defScope s_Book_init) .none (.ref kwD2) dc2 pm2 an2 cd2 ct2), sl2⟩) (c2 : PySem.W.codeIn K cd2 "Book.__init__" = true) (k2 : PySem.W.keepIn K (.ref f2) = true)
    (kw2_0 : PySem.W.nsIn K kwD2 "joint" = some (some (.int (0) kwt2_0)))
    (kw2_1 : PySem.W.nsIn K kwD2 "over" = some (some (.int (100) kwt2_1)))
    (kw2_2 : PySem.W.nsIn K kwD2 "keep" = some (some (.int (0) kwt2_2)))
    (kw2_3 : PySem.W.nsIn K kwD2 "orphan" = some (some (.int (0) kwt2_3)))
    (kw2_4 : PySem.W.nsIn K kwD2 "widow" = some (some (.int (0) kwt2_4)))
    (kw2_5 : PySem.W.nsIn K kwD2 "wait" = some (some (.int (0) kwt2_5)))
    (kw2_6 : PySem.W.nsIn K kwD2 "columns" = some (some (.int (1) kwt2_6)))
    (kw2_7 : PySem.W.nsIn K kwD2 "gutter" = some (some (.int (1) kwt2_7)))
    (kw2_8 : PySem.W.nsIn K kwD2 "full" = some (some (.bool false)))
    (l3 : K.lookup f3 = some ⟨oc3, od3, .func (PySem.W.fnOf "__eq__" "Book.__eq__" (defArgs s_Book_eq) (defBody s_Book_eq) (defScope s_Book_eq) .none kV3 dc3 pm3 an3 cd3 ct3), sl3⟩) (c3 : PySem.W.codeIn K cd3 "Book.__eq__" = true) (k3 : PySem.W.keepIn K (.ref f3) = true)
    (l4 : K.lookup f4 = some ⟨oc4, od4, .func (PySem.W.fnOf "changed" "Book.changed" (defArgs s_Book_changed) (defBody s_Book_changed) (defScope s_Book_changed) .none kV4 dc4 pm4 an4 cd4 ct4), sl4⟩) (c4 : PySem.W.codeIn K cd4 "Book.changed" = true) (k4 : PySem.W.keepIn K (.ref f4) = true)
    (a5 : PySem.W.nsIn K mainGlobals "_law_cell" = some (some (.ref f5)))
    (l5 : K.lookup f5 = some ⟨oc5, od5, .func (PySem.W.fnOf "_law_cell" "_law_cell" (defArgs s_l_cell) (defBody s_l_cell) (defScope s_l_cell) .none kV5 dc5 pm5 an5 cd5 ct5), sl5⟩) (c5 : PySem.W.codeIn K cd5 "_law_cell" = true) (k5 : PySem.W.keepIn K (.ref f5) = true)
    (a6 : PySem.W.nsIn K mainGlobals "_law_row" = some (some (.ref f6)))
    (l6 : K.lookup f6 = some ⟨oc6, od6, .func (PySem.W.fnOf "_law_row" "_law_row" (defArgs s_l_row) (defBody s_l_row) (defScope s_l_row) .none kV6 dc6 pm6 an6 cd6 ct6), sl6⟩) (c6 : PySem.W.codeIn K cd6 "_law_row" = true) (k6 : PySem.W.keepIn K (.ref f6) = true)
    (a7 : PySem.W.nsIn K mainGlobals "_law_number" = some (some (.ref f7)))
    (l7 : K.lookup f7 = some ⟨oc7, od7, .func (PySem.W.fnOf "_law_number" "_law_number" (defArgs s_l_number) (defBody s_l_number) (defScope s_l_number) .none kV7 dc7 pm7 an7 cd7 ct7), sl7⟩) (c7 : PySem.W.codeIn K cd7 "_law_number" = true) (k7 : PySem.W.keepIn K (.ref f7) = true)
    (a8 : PySem.W.nsIn K mainGlobals "_law_same" = some (some (.ref f8)))
    (l8 : K.lookup f8 = some ⟨oc8, od8, .func (PySem.W.fnOf "_law_same" "_law_same" (defArgs s_l_same) (defBody s_l_same) (defScope s_l_same) .none kV8 dc8 pm8 an8 cd8 ct8), sl8⟩) (c8 : PySem.W.codeIn K cd8 "_law_same" = true) (k8 : PySem.W.keepIn K (.ref f8) = true)
    (a9 : PySem.W.nsIn K mainGlobals "_law_names" = some (some (.ref f9)))
    (l9 : K.lookup f9 = some ⟨oc9, od9, .func (PySem.W.fnOf "_law_names" "_law_names" (defArgs s_l_names) (defBody s_l_names) (defScope s_l_names) .none kV9 dc9 pm9 an9 cd9 ct9), sl9⟩) (c9 : PySem.W.codeIn K cd9 "_law_names" = true) (k9 : PySem.W.keepIn K (.ref f9) = true)
    (a10 : PySem.W.nsIn K mainGlobals "_law_bounds" = some (some (.ref f10)))
    (l10 : K.lookup f10 = some ⟨oc10, od10, .func (PySem.W.fnOf "_law_bounds" "_law_bounds" (defArgs s_l_bounds) (defBody s_l_bounds) (defScope s_l_bounds) .none kV10 dc10 pm10 an10 cd10 ct10), sl10⟩) (c10 : PySem.W.codeIn K cd10 "_law_bounds" = true) (k10 : PySem.W.keepIn K (.ref f10) = true)
    (a11 : PySem.W.nsIn K mainGlobals "_law_values" = some (some (.ref f11)))
    (l11 : K.lookup f11 = some ⟨oc11, od11, .func (PySem.W.fnOf "_law_values" "_law_values" (defArgs s_l_values) (defBody s_l_values) (defScope s_l_values) .none kV11 dc11 pm11 an11 cd11 ct11), sl11⟩) (c11 : PySem.W.codeIn K cd11 "_law_values" = true) (k11 : PySem.W.keepIn K (.ref f11) = true)
    (a12 : PySem.W.nsIn K mainGlobals "_law_odd" = some (some (.ref f12)))
    (l12 : K.lookup f12 = some ⟨oc12, od12, .func (PySem.W.fnOf "_law_odd" "_law_odd" (defArgs s_l_odd) (defBody s_l_odd) (defScope s_l_odd) .none kV12 dc12 pm12 an12 cd12 ct12), sl12⟩) (c12 : PySem.W.codeIn K cd12 "_law_odd" = true) (k12 : PySem.W.keepIn K (.ref f12) = true)
    (a13 : PySem.W.nsIn K mainGlobals "_law_fits" = some (some (.ref f13)))
    (l13 : K.lookup f13 = some ⟨oc13, od13, .func (PySem.W.fnOf "_law_fits" "_law_fits" (defArgs s_l_fits) (defBody s_l_fits) (defScope s_l_fits) .none kV13 dc13 pm13 an13 cd13 ct13), sl13⟩) (c13 : PySem.W.codeIn K cd13 "_law_fits" = true) (k13 : PySem.W.keepIn K (.ref f13) = true)
    (a14 : PySem.W.nsIn K mainGlobals "_law_due" = some (some (.ref f14)))
    (l14 : K.lookup f14 = some ⟨oc14, od14, .func (PySem.W.fnOf "_law_due" "_law_due" (defArgs s_l_due) (defBody s_l_due) (defScope s_l_due) .none kV14 dc14 pm14 an14 cd14 ct14), sl14⟩) (c14 : PySem.W.codeIn K cd14 "_law_due" = true) (k14 : PySem.W.keepIn K (.ref f14) = true)
    (a15 : PySem.W.nsIn K mainGlobals "_law_told" = some (some (.ref f15)))
    (l15 : K.lookup f15 = some ⟨oc15, od15, .func (PySem.W.fnOf "_law_told" "_law_told" (defArgs s_l_told) (defBody s_l_told) (defScope s_l_told) .none kV15 dc15 pm15 an15 cd15 ct15), sl15⟩) (c15 : PySem.W.codeIn K cd15 "_law_told" = true) (k15 : PySem.W.keepIn K (.ref f15) = true)
    (a16 : PySem.W.nsIn K mainGlobals "_law_book" = some (some (.ref f16)))
    (l16 : K.lookup f16 = some ⟨oc16, od16, .func (PySem.W.fnOf "_law_book" "_law_book" (defArgs s_l_book) (defBody s_l_book) (defScope s_l_book) .none kV16 dc16 pm16 an16 cd16 ct16), sl16⟩) (c16 : PySem.W.codeIn K cd16 "_law_book" = true) (k16 : PySem.W.keepIn K (.ref f16) = true)
    (a17 : PySem.W.nsIn K mainGlobals "_law_made" = some (some (.ref f17)))
    (l17 : K.lookup f17 = some ⟨oc17, od17, .func (PySem.W.fnOf "_law_made" "_law_made" (defArgs s_l_made) (defBody s_l_made) (defScope s_l_made) .none kV17 dc17 pm17 an17 cd17 ct17), sl17⟩) (c17 : PySem.W.codeIn K cd17 "_law_made" = true) (k17 : PySem.W.keepIn K (.ref f17) = true)
    (a18 : PySem.W.nsIn K mainGlobals "_law_one_changed" = some (some (.ref f18)))
    (l18 : K.lookup f18 = some ⟨oc18, od18, .func (PySem.W.fnOf "_law_one_changed" "_law_one_changed" (defArgs s_l_one_changed) (defBody s_l_one_changed) (defScope s_l_one_changed) .none kV18 dc18 pm18 an18 cd18 ct18), sl18⟩) (c18 : PySem.W.codeIn K cd18 "_law_one_changed" = true) (k18 : PySem.W.keepIn K (.ref f18) = true)
    (a19 : PySem.W.nsIn K mainGlobals "_law_some_changed" = some (some (.ref f19)))
    (l19 : K.lookup f19 = some ⟨oc19, od19, .func (PySem.W.fnOf "_law_some_changed" "_law_some_changed" (defArgs s_l_some_changed) (defBody s_l_some_changed) (defScope s_l_some_changed) .none kV19 dc19 pm19 an19 cd19 ct19), sl19⟩) (c19 : PySem.W.codeIn K cd19 "_law_some_changed" = true) (k19 : PySem.W.keepIn K (.ref f19) = true)
    (a20 : PySem.W.nsIn K mainGlobals "_law_some_due" = some (some (.ref f20)))
    (l20 : K.lookup f20 = some ⟨oc20, od20, .func (PySem.W.fnOf "_law_some_due" "_law_some_due" (defArgs s_l_some_due) (defBody s_l_some_due) (defScope s_l_some_due) .none kV20 dc20 pm20 an20 cd20 ct20), sl20⟩) (c20 : PySem.W.codeIn K cd20 "_law_some_due" = true) (k20 : PySem.W.keepIn K (.ref f20) = true)
    (a21 : PySem.W.nsIn K mainGlobals "_law_changes_are" = some (some (.ref f21)))
    (l21 : K.lookup f21 = some ⟨oc21, od21, .func (PySem.W.fnOf "_law_changes_are" "_law_changes_are" (defArgs s_l_changes_are) (defBody s_l_changes_are) (defScope s_l_changes_are) .none kV21 dc21 pm21 an21 cd21 ct21), sl21⟩) (c21 : PySem.W.codeIn K cd21 "_law_changes_are" = true) (k21 : PySem.W.keepIn K (.ref f21) = true)
    (a22 : PySem.W.nsIn K mainGlobals "_law_strange" = some (some (.ref f22)))
    (l22 : K.lookup f22 = some ⟨oc22, od22, .func (PySem.W.fnOf "_law_strange" "_law_strange" (defArgs s_l_strange) (defBody s_l_strange) (defScope s_l_strange) .none kV22 dc22 pm22 an22 cd22 ct22), sl22⟩) (c22 : PySem.W.codeIn K cd22 "_law_strange" = true) (k22 : PySem.W.keepIn K (.ref f22) = true)
    (a23 : PySem.W.nsIn K mainGlobals "law" = some (some (.ref f23)))
    (l23 : K.lookup f23 = some ⟨oc23, od23, .func (PySem.W.fnOf "law" "law" (defArgs s_law) (defBody s_law) (defScope s_law) .none kV23 dc23 pm23 an23 cd23 ct23), sl23⟩) (c23 : PySem.W.codeIn K cd23 "law" = true) (k23 : PySem.W.keepIn K (.ref f23) = true)
    (z_ValueError : PySem.W.nsIn K mainGlobals "ValueError" = some none)
    (z_bool : PySem.W.nsIn K mainGlobals "bool" = some none)
    (z_dict : PySem.W.nsIn K mainGlobals "dict" = some none)
    (z_int : PySem.W.nsIn K mainGlobals "int" = some none)
    (z_isinstance : PySem.W.nsIn K mainGlobals "isinstance" = some none)
    (z_len : PySem.W.nsIn K mainGlobals "len" = some none)
    (z_list : PySem.W.nsIn K mainGlobals "list" = some none)
    (z_min : PySem.W.nsIn K mainGlobals "min" = some none)
    (z_range : PySem.W.nsIn K mainGlobals "range" = some none)
    (z_str : PySem.W.nsIn K mainGlobals "str" = some none)
    (z_tuple : PySem.W.nsIn K mainGlobals "tuple" = some none)
    (z_zip : PySem.W.nsIn K mainGlobals "zip" = some none)
    (y_LEAST : PySem.W.nsIn K mainGlobals "LEAST" = some (some (.ref kA_LEAST_0)))
    (kl_LEAST_0 : K.lookup kA_LEAST_0 = some ⟨.type "tuple", kod_LEAST_0, .seq #[.int (1) kt_LEAST_0_0, .int (1) kt_LEAST_0_1, .int (0) kt_LEAST_0_2, .int (0) kt_LEAST_0_3, .int (0) kt_LEAST_0_4, .int (0) kt_LEAST_0_5, .int (0) kt_LEAST_0_6, .int (0) kt_LEAST_0_7, .int (1) kt_LEAST_0_8, .int (0) kt_LEAST_0_9] kn_LEAST_0, ksl_LEAST_0⟩)
    (y_MOST : PySem.W.nsIn K mainGlobals "MOST" = some (some (.ref kA_MOST_0)))
    (kl_MOST_0 : K.lookup kA_MOST_0 = some ⟨.type "tuple", kod_MOST_0, .seq #[.int (2000) kt_MOST_0_0, .int (2000) kt_MOST_0_1, .int (2000) kt_MOST_0_2, .int (2000) kt_MOST_0_3, .int (2000) kt_MOST_0_4, .int (2000) kt_MOST_0_5, .int (2000) kt_MOST_0_6, .int (2000) kt_MOST_0_7, .int (4) kt_MOST_0_8, .int (40) kt_MOST_0_9] kn_MOST_0, ksl_MOST_0⟩)
    (x_BadBook : PySem.W.nsIn K mainGlobals "BadBook" = some (some (.ref A_BadBook)))
    (x_LaidError : PySem.W.nsIn K mainGlobals "LaidError" = some (some (.ref A_LaidError)))
    (x_TooLarge : PySem.W.nsIn K mainGlobals "TooLarge" = some (some (.ref A_TooLarge)))
    (X1_BadBook : K.lookup A_BadBook = some (excClassObj nm_BadBook qq_BadBook A_BadBook N_BadBook bs_BadBook bm_BadBook true sn_BadBook sb_BadBook ab_BadBook co_BadBook dd_BadBook m0_BadBook m1_BadBook m2_BadBook m3_BadBook m5_BadBook "ValueError.__new__")) (X2_BadBook : PySem.HandSPX.refsVE bm_BadBook = true)
    (X3_BadBook : PySem.W.findIn K (.ref A_BadBook) "__setattr__" = some (some (.builtin "object.__setattr__"))) (X4_BadBook : PySem.W.subIn K (.ref A_BadBook) (.type "BaseException") = some true) (X5_BadBook : PySem.W.typeIn K (.ref A_BadBook) = some (.type "type")) (X6_BadBook : PySem.W.keepIn K (.ref A_BadBook) = true)
    (X7_BadBook : PySem.W.findIn K (.ref A_BadBook) "__init__" = some (some (.ref fI_BadBook))) (X8_BadBook : PySem.W.typeIn K (.ref fI_BadBook) = some (.type "function")) (X9_BadBook : K.lookup fI_BadBook = some ⟨oc_BadBook, od_BadBook, .func (PySem.W.fnOf "__init__" "BadBook.__init__" (defArgs s_BadBook) (defBody s_BadBook) (defScope s_BadBook) .none kV_BadBook dc_BadBook pm_BadBook an_BadBook cd_BadBook ct_BadBook), sl_BadBook⟩) (Xa_BadBook : PySem.W.codeIn K cd_BadBook "BadBook.__init__" = true) (Xb_BadBook : PySem.W.keepIn K (.ref fI_BadBook) = true)
    (Y0_BadBook : PySem.W.findIn K (.ref A_BadBook) "field" = some none)
    (Xc_BadBook : PySem.W.findIn K (.ref A_BadBook) "__getattribute__" = some (some (.builtin "BaseException.__getattribute__"))) (Xd_BadBook : PySem.W.findIn K (.ref A_BadBook) "__getattr__" = some none) (Xe_BadBook : PySem.W.hasDictIn K A_BadBook = true)
    (Xf_BadBook : PySem.W.findIn K (.ref A_BadBook) "__class__" = some (some (.builtin "object.__class__"))) (Xg_BadBook : PySem.W.specialIn K (.builtin "object.__class__") "__get__" = some (some (.builtin "getset_descriptor.__get__"))) (Xh_BadBook : PySem.W.takesIn K (.builtin "object.__class__") = some true) (Xi_BadBook : PySem.W.mroIn K A_BadBook (.type "object") = some true)
    (E_BadBook_BadBook : PySem.W.exmOne K (.ref A_BadBook) (.ref A_BadBook) = some true)
    (Q_BadBook_LaidError : PySem.W.kitOne K (.ref A_BadBook) (.ref A_LaidError) = some true)
    (Q_BadBook_TooLarge : PySem.W.kitOne K (.ref A_BadBook) (.ref A_TooLarge) = some false)
    (Q_BadBook_ValueError : PySem.W.kitOne K (.ref A_BadBook) (.type "ValueError") = some true)
    (x_Book : PySem.W.nsIn K mainGlobals "Book" = some (some (.ref A_Book))) (P1_Book : PySem.W.plainGet K A_Book Str.empty = true) (P2_Book : PySem.W.hasDictIn K A_Book = true) (P3_Book : PySem.W.plainOver K A_Book = true) (P4_Book : PySem.W.findIn K (.ref A_Book) "__setattr__" = some (some (.builtin "object.__setattr__")))
    (M1_Book : PySem.W.makesIn K A_Book = true) (M2_Book : PySem.W.findIn K (.ref A_Book) "__init__" = some (some (.ref f2))) (M3_Book : PySem.W.isFn K (.ref f2) = true) (M4_Book : PySem.W.keepIn K (.ref A_Book) = true)
    (N_Book_columns : PySem.W.findIn K (.ref A_Book) "columns" = some none)
    (N_Book_field_values : PySem.W.findIn K (.ref A_Book) "field_values" = some none)
    (N_Book_full : PySem.W.findIn K (.ref A_Book) "full" = some none)
    (N_Book_gutter : PySem.W.findIn K (.ref A_Book) "gutter" = some none)
    (N_Book_height : PySem.W.findIn K (.ref A_Book) "height" = some none)
    (N_Book_joint : PySem.W.findIn K (.ref A_Book) "joint" = some none)
    (N_Book_keep : PySem.W.findIn K (.ref A_Book) "keep" = some none)
    (N_Book_orphan : PySem.W.findIn K (.ref A_Book) "orphan" = some none)
    (N_Book_over : PySem.W.findIn K (.ref A_Book) "over" = some none)
    (N_Book_room : PySem.W.findIn K (.ref A_Book) "room" = some none)
    (N_Book_wait : PySem.W.findIn K (.ref A_Book) "wait" = some none)
    (N_Book_widow : PySem.W.findIn K (.ref A_Book) "widow" = some none)
    (m1_Book___eq__ : PySem.W.findIn K (.ref A_Book) "__eq__" = some (some (.ref f3))) (m2_Book___eq__ : PySem.W.isFn K (.ref f3) = true)
    (m1_Book_changed : PySem.W.findIn K (.ref A_Book) "changed" = some (some (.ref f4))) (m2_Book_changed : PySem.W.isFn K (.ref f4) = true)
    (nf_Book : PySem.W.notFirst K A_Book (.ref A_Book) = true)
    (I1_Book : PySem.W.findIn K (.ref A_Book) "__class__" = some (some (.builtin "object.__class__"))) (I2_Book : PySem.W.specialIn K (.builtin "object.__class__") "__get__" = some (some (.builtin "getset_descriptor.__get__"))) (I3_Book : PySem.W.takesIn K (.builtin "object.__class__") = some true) (I4_Book : PySem.W.mroIn K A_Book (.type "object") = some true) (Q_Book_self : PySem.W.kitOne K (.ref A_Book) (.ref A_Book) = some true)
    (Q_Book_NoneType : PySem.W.kitOne K (.type "NoneType") (.ref A_Book) = some false)
    (Q_Book_bool : PySem.W.kitOne K (.type "bool") (.ref A_Book) = some false)
    (Q_Book_int : PySem.W.kitOne K (.type "int") (.ref A_Book) = some false)
    (Q_Book_str : PySem.W.kitOne K (.type "str") (.ref A_Book) = some false)
    (Q_Book_list : PySem.W.kitOne K (.type "list") (.ref A_Book) = some false)
    (Q_Book_tuple : PySem.W.kitOne K (.type "tuple") (.ref A_Book) = some false)
    (Q_Book_dict : PySem.W.kitOne K (.type "dict") (.ref A_Book) = some false)
    (W_Book_NoneType : PySem.W.notFirst K A_Book (.type "NoneType") = true)
    (W_Book_bool : PySem.W.notFirst K A_Book (.type "bool") = true)
    (W_Book_int : PySem.W.notFirst K A_Book (.type "int") = true)
    (W_Book_str : PySem.W.notFirst K A_Book (.type "str") = true)
    (W_Book_list : PySem.W.notFirst K A_Book (.type "list") = true)
    (W_Book_tuple : PySem.W.notFirst K A_Book (.type "tuple") = true)
    (W_Book_dict : PySem.W.notFirst K A_Book (.type "dict") = true)
    (R1_Book : PySem.W.readsIn K A_Book (.type "type") = true) (R2_Book : PySem.W.specialIn K (.ref A_Book) "__getattribute__" = some (some (.builtin "type.__getattribute__")))
    (V_Book_FIELDS : PySem.W.findCls K (.ref A_Book) (.type "type") "FIELDS" = some (.val (.ref kA_Book_FIELDS_0)))
    (kl_Book_FIELDS_0 : K.lookup kA_Book_FIELDS_0 = some ⟨.type "tuple", kod_Book_FIELDS_0, .seq #[.str "room" kt_Book_FIELDS_0_0, .str "height" kt_Book_FIELDS_0_1, .str "joint" kt_Book_FIELDS_0_2, .str "over" kt_Book_FIELDS_0_3, .str "keep" kt_Book_FIELDS_0_4, .str "orphan" kt_Book_FIELDS_0_5, .str "widow" kt_Book_FIELDS_0_6, .str "wait" kt_Book_FIELDS_0_7, .str "columns" kt_Book_FIELDS_0_8, .str "gutter" kt_Book_FIELDS_0_9, .str "full" kt_Book_FIELDS_0_10] kn_Book_FIELDS_0, ksl_Book_FIELDS_0⟩) : ∃ T : Txt K mg, T.f_law = f23 ∧ T.fd_law = PySem.W.fnOf "law" "law" (defArgs s_law) (defBody s_law) (defScope s_law) .none kV23 dc23 pm23 an23 cd23 ct23 := by
  have F0 := fun_mk (st := s_is_number) l0 c0 k0
  have b0 := F0.binds (ps := ["value"]) fun _ _ _ _ _ _ us hl => match us, hl with | [_], _ => rfl
  have F1 := fun_mk (st := s_is_within) l1 c1 k1
  have b1 := F1.binds (ps := ["value", "least", "most"]) fun _ _ _ _ _ _ us hl => match us, hl with | [_, _, _], _ => rfl
  have F2 := fun_mk (st := s_Book_init) l2 c2 k2
  have b2_0 := kbn_q (K := K) (name := "__init__") (qual := "Book.__init__") (params := defArgs s_Book_init) (body := defBody s_Book_init) (scope := defScope s_Book_init) (D := kwD2) (doc := dc2) (pm := pm2) (an := an2) (cdv := cd2) (ct := ct2) (ps := ["self", "room", "height", "joint", "over", "keep", "orphan", "widow", "wait", "columns", "gutter", "full"]) (ks := ["joint", "over", "keep", "orphan", "widow", "wait", "columns", "gutter", "full"]) (mv := [.int (0) kwt2_0, .int (100) kwt2_1, .int (0) kwt2_2, .int (0) kwt2_3, .int (0) kwt2_4, .int (0) kwt2_5, .int (1) kwt2_6, .int (1) kwt2_7, .bool false]) (dvs := [.int 0, .int 100, .int 0, .int 0, .int 0, .int 0, .int 1, .int 1, .bl false]) 3 [(0, 0), (0, 1), (1, 0), (1, 1), (1, 2), (1, 3), (1, 4), (1, 5), (1, 6), (1, 7), (1, 8)] rfl (.cons ⟨_, rfl⟩ (.cons ⟨_, rfl⟩ (.cons ⟨_, rfl⟩ (.cons ⟨_, rfl⟩ (.cons ⟨_, rfl⟩ (.cons ⟨_, rfl⟩ (.cons ⟨_, rfl⟩ (.cons ⟨_, rfl⟩ (.cons rfl .nil))))))))) (show ∀ q ∈ ([("joint", .int (0) kwt2_0), ("over", .int (100) kwt2_1), ("keep", .int (0) kwt2_2), ("orphan", .int (0) kwt2_3), ("widow", .int (0) kwt2_4), ("wait", .int (0) kwt2_5), ("columns", .int (1) kwt2_6), ("gutter", .int (1) kwt2_7), ("full", .bool false)] : List (Str × Value)), PySem.W.nsIn K kwD2 q.1 = some (some q.2) from by intro q hq; simp only [List.mem_cons, List.not_mem_nil, or_false] at hq; rcases hq with rfl | rfl | rfl | rfl | rfl | rfl | rfl | rfl | rfl <;> first | exact kw2_0 | exact kw2_1 | exact kw2_2 | exact kw2_3 | exact kw2_4 | exact kw2_5 | exact kw2_6 | exact kw2_7 | exact kw2_8) rfl (by decide) (by decide +kernel) (by decide +kernel) (by decide +kernel) fun us ws h1 h2 => match us, ws, h1, h2 with | [_, _, _], [_, _, _, _, _, _, _, _, _], _, _ => by kernel_rfl
  have b2_1 := kbn_q (K := K) (name := "__init__") (qual := "Book.__init__") (params := defArgs s_Book_init) (body := defBody s_Book_init) (scope := defScope s_Book_init) (D := kwD2) (doc := dc2) (pm := pm2) (an := an2) (cdv := cd2) (ct := ct2) (ps := ["self", "room", "height", "joint", "over", "keep", "orphan", "widow", "wait", "columns", "gutter", "full"]) (ks := []) (mv := [.int (0) kwt2_0, .int (100) kwt2_1, .int (0) kwt2_2, .int (0) kwt2_3, .int (0) kwt2_4, .int (0) kwt2_5, .int (1) kwt2_6, .int (1) kwt2_7, .bool false]) (dvs := [.int 0, .int 100, .int 0, .int 0, .int 0, .int 0, .int 1, .int 1, .bl false]) 3 [(0, 0), (0, 1), (2, 0), (2, 1), (2, 2), (2, 3), (2, 4), (2, 5), (2, 6), (2, 7), (2, 8)] rfl (.cons ⟨_, rfl⟩ (.cons ⟨_, rfl⟩ (.cons ⟨_, rfl⟩ (.cons ⟨_, rfl⟩ (.cons ⟨_, rfl⟩ (.cons ⟨_, rfl⟩ (.cons ⟨_, rfl⟩ (.cons ⟨_, rfl⟩ (.cons rfl .nil))))))))) (show ∀ q ∈ ([("joint", .int (0) kwt2_0), ("over", .int (100) kwt2_1), ("keep", .int (0) kwt2_2), ("orphan", .int (0) kwt2_3), ("widow", .int (0) kwt2_4), ("wait", .int (0) kwt2_5), ("columns", .int (1) kwt2_6), ("gutter", .int (1) kwt2_7), ("full", .bool false)] : List (Str × Value)), PySem.W.nsIn K kwD2 q.1 = some (some q.2) from by intro q hq; simp only [List.mem_cons, List.not_mem_nil, or_false] at hq; rcases hq with rfl | rfl | rfl | rfl | rfl | rfl | rfl | rfl | rfl <;> first | exact kw2_0 | exact kw2_1 | exact kw2_2 | exact kw2_3 | exact kw2_4 | exact kw2_5 | exact kw2_6 | exact kw2_7 | exact kw2_8) rfl (by decide) (by decide +kernel) (by decide +kernel) (by decide +kernel) fun us ws h1 h2 => match us, ws, h1, h2 with | [_, _, _], [], _, _ => by kernel_rfl
  have b2_2 := kbn_q (K := K) (name := "__init__") (qual := "Book.__init__") (params := defArgs s_Book_init) (body := defBody s_Book_init) (scope := defScope s_Book_init) (D := kwD2) (doc := dc2) (pm := pm2) (an := an2) (cdv := cd2) (ct := ct2) (ps := ["self", "room", "height", "joint", "over", "keep", "orphan", "widow", "wait", "columns", "gutter", "full"]) (ks := ["height", "room", "keep", "full", "gutter"]) (mv := [.int (0) kwt2_0, .int (100) kwt2_1, .int (0) kwt2_2, .int (0) kwt2_3, .int (0) kwt2_4, .int (0) kwt2_5, .int (1) kwt2_6, .int (1) kwt2_7, .bool false]) (dvs := [.int 0, .int 100, .int 0, .int 0, .int 0, .int 0, .int 1, .int 1, .bl false]) 1 [(1, 1), (1, 0), (2, 0), (2, 1), (1, 2), (2, 3), (2, 4), (2, 5), (2, 6), (1, 4), (1, 3)] rfl (.cons ⟨_, rfl⟩ (.cons ⟨_, rfl⟩ (.cons ⟨_, rfl⟩ (.cons ⟨_, rfl⟩ (.cons ⟨_, rfl⟩ (.cons ⟨_, rfl⟩ (.cons ⟨_, rfl⟩ (.cons ⟨_, rfl⟩ (.cons rfl .nil))))))))) (show ∀ q ∈ ([("joint", .int (0) kwt2_0), ("over", .int (100) kwt2_1), ("keep", .int (0) kwt2_2), ("orphan", .int (0) kwt2_3), ("widow", .int (0) kwt2_4), ("wait", .int (0) kwt2_5), ("columns", .int (1) kwt2_6), ("gutter", .int (1) kwt2_7), ("full", .bool false)] : List (Str × Value)), PySem.W.nsIn K kwD2 q.1 = some (some q.2) from by intro q hq; simp only [List.mem_cons, List.not_mem_nil, or_false] at hq; rcases hq with rfl | rfl | rfl | rfl | rfl | rfl | rfl | rfl | rfl <;> first | exact kw2_0 | exact kw2_1 | exact kw2_2 | exact kw2_3 | exact kw2_4 | exact kw2_5 | exact kw2_6 | exact kw2_7 | exact kw2_8) rfl (by decide) (by decide +kernel) (by decide +kernel) (by decide +kernel) fun us ws h1 h2 => match us, ws, h1, h2 with | [_], [_, _, _, _, _], _, _ => by kernel_rfl
  have bd2 := kbn_a (K := K) (fd := PySem.W.fnOf "__init__" "Book.__init__" (defArgs s_Book_init) (defBody s_Book_init) (defScope s_Book_init) .none (.ref kwD2) dc2 pm2 an2 cd2 ct2) (ps := ["self", "room", "height", "joint", "over", "keep", "orphan", "widow", "wait", "columns", "gutter", "full"]) (ks := ["room", "height", "joint", "over", "keep", "orphan", "widow", "wait", "columns", "gutter", "full"]) 1 fun us ws h1 h2 => match us, ws, h1, h2 with | [_], [_, _, _, _, _, _, _, _, _, _, _], _, _ => by kernel_rfl
  have F3 := fun_mk (st := s_Book_eq) l3 c3 k3
  have b3 := F3.binds (ps := ["self", "other"]) fun _ _ _ _ _ _ us hl => match us, hl with | [_, _], _ => rfl
  have F4 := fun_mk (st := s_Book_changed) l4 c4 k4
  have F5 := fun_mk (st := s_l_cell) l5 c5 k5
  have b5 := F5.binds (ps := ["_law_script", "_law_k"]) fun _ _ _ _ _ _ us hl => match us, hl with | [_, _], _ => rfl
  have F6 := fun_mk (st := s_l_row) l6 c6 k6
  have b6 := F6.binds (ps := ["_law_cell_here", "_law_limits"]) fun _ _ _ _ _ _ us hl => match us, hl with | [_, _], _ => rfl
  have F7 := fun_mk (st := s_l_number) l7 c7 k7
  have b7 := F7.binds (ps := ["_law_value"]) fun _ _ _ _ _ _ us hl => match us, hl with | [_], _ => rfl
  have F8 := fun_mk (st := s_l_same) l8 c8 k8
  have b8 := F8.binds (ps := ["_law_one", "_law_two"]) fun _ _ _ _ _ _ us hl => match us, hl with | [_, _], _ => rfl
  have F9 := fun_mk (st := s_l_names) l9 c9 k9
  have b9 := F9.binds (ps := []) fun _ _ _ _ _ _ us hl => match us, hl with | [], _ => rfl
  have F10 := fun_mk (st := s_l_bounds) l10 c10 k10
  have b10 := F10.binds (ps := ["_law_k"]) fun _ _ _ _ _ _ us hl => match us, hl with | [_], _ => rfl
  have F11 := fun_mk (st := s_l_values) l11 c11 k11
  have b11 := F11.binds (ps := ["_law_row_here"]) fun _ _ _ _ _ _ us hl => match us, hl with | [_], _ => rfl
  have F12 := fun_mk (st := s_l_odd) l12 c12 k12
  have b12 := F12.binds (ps := ["_law_k", "_law_pick"]) fun _ _ _ _ _ _ us hl => match us, hl with | [_, _], _ => rfl
  have F13 := fun_mk (st := s_l_fits) l13 c13 k13
  have b13 := F13.binds (ps := ["_law_k", "_law_value"]) fun _ _ _ _ _ _ us hl => match us, hl with | [_, _], _ => rfl
  have F14 := fun_mk (st := s_l_due) l14 c14 k14
  have b14 := F14.binds (ps := ["_law_values_here"]) fun _ _ _ _ _ _ us hl => match us, hl with | [_], _ => rfl
  have F15 := fun_mk (st := s_l_told) l15 c15 k15
  have b15 := F15.binds (ps := ["_law_book_here"]) fun _ _ _ _ _ _ us hl => match us, hl with | [_], _ => rfl
  have F16 := fun_mk (st := s_l_book) l16 c16 k16
  have b16 := F16.binds (ps := ["_law_v"]) fun _ _ _ _ _ _ us hl => match us, hl with | [_], _ => rfl
  have F17 := fun_mk (st := s_l_made) l17 c17 k17
  have b17 := F17.binds (ps := ["_law_v"]) fun _ _ _ _ _ _ us hl => match us, hl with | [_], _ => rfl
  have F18 := fun_mk (st := s_l_one_changed) l18 c18 k18
  have b18 := F18.binds (ps := ["_law_book_here", "_law_k", "_law_value"]) fun _ _ _ _ _ _ us hl => match us, hl with | [_, _, _], _ => rfl
  have F19 := fun_mk (st := s_l_some_changed) l19 c19 k19
  have b19 := F19.binds (ps := ["_law_book_here", "_law_way", "_law_v"]) fun _ _ _ _ _ _ us hl => match us, hl with | [_, _, _], _ => rfl
  have F20 := fun_mk (st := s_l_some_due) l20 c20 k20
  have b20 := F20.binds (ps := ["_law_values_here", "_law_way", "_law_v"]) fun _ _ _ _ _ _ us hl => match us, hl with | [_, _, _], _ => rfl
  have F21 := fun_mk (st := s_l_changes_are) l21 c21 k21
  have b21 := F21.binds (ps := ["_law_book_here", "_law_values_here", "_law_pick", "_law_v"]) fun _ _ _ _ _ _ us hl => match us, hl with | [_, _, _, _], _ => rfl
  have F22 := fun_mk (st := s_l_strange) l22 c22 k22
  have b22 := F22.binds (ps := ["_law_book_here", "_law_way"]) fun _ _ _ _ _ _ us hl => match us, hl with | [_, _], _ => rfl
  have F23 := fun_mk (st := s_law) l23 c23 k23
  have b23 := F23.binds (ps := ["_law_script"]) fun _ _ _ _ _ _ us hl => match us, hl with | [_], _ => rfl
  have FI_BadBook := fun_mk (st := s_BadBook) X9_BadBook Xa_BadBook Xb_BadBook
  have bI_BadBook := FI_BadBook.binds (ps := ["self", "field"]) fun _ _ _ _ _ _ us hl => match us, hl with | [_, _], _ => rfl
  exact ⟨⟨f0, _, F0, PySem.W.mg_of X G a0, b0, f1, _, F1, PySem.W.mg_of X G a1, b1, f2, _, F2, [.int (0) kwt2_0, .int (100) kwt2_1, .int (0) kwt2_2, .int (0) kwt2_3, .int (0) kwt2_4, .int (0) kwt2_5, .int (1) kwt2_6, .int (1) kwt2_7, .bool false], b2_0, b2_1, b2_2, bd2, f3, _, F3, b3, f4, _, F4, f5, _, F5, PySem.W.mg_of X G a5, b5, f6, _, F6, PySem.W.mg_of X G a6, b6, f7, _, F7, PySem.W.mg_of X G a7, b7, f8, _, F8, PySem.W.mg_of X G a8, b8, f9, _, F9, PySem.W.mg_of X G a9, b9, f10, _, F10, PySem.W.mg_of X G a10, b10, f11, _, F11, PySem.W.mg_of X G a11, b11, f12, _, F12, PySem.W.mg_of X G a12, b12, f13, _, F13, PySem.W.mg_of X G a13, b13, f14, _, F14, PySem.W.mg_of X G a14, b14, f15, _, F15, PySem.W.mg_of X G a15, b15, f16, _, F16, PySem.W.mg_of X G a16, b16, f17, _, F17, PySem.W.mg_of X G a17, b17, f18, _, F18, PySem.W.mg_of X G a18, b18, f19, _, F19, PySem.W.mg_of X G a19, b19, f20, _, F20, PySem.W.mg_of X G a20, b20, f21, _, F21, PySem.W.mg_of X G a21, b21, f22, _, F22, PySem.W.mg_of X G a22, b22, f23, _, F23, PySem.W.mg_of X G a23, b23, PySem.W.mg_none_of X G z_ValueError, PySem.W.mg_none_of X G z_bool, PySem.W.mg_none_of X G z_dict, PySem.W.mg_none_of X G z_int, PySem.W.mg_none_of X G z_isinstance, PySem.W.mg_none_of X G z_len, PySem.W.mg_none_of X G z_list, PySem.W.mg_none_of X G z_min, PySem.W.mg_none_of X G z_range, PySem.W.mg_none_of X G z_str, PySem.W.mg_none_of X G z_tuple, PySem.W.mg_none_of X G z_zip, kA_LEAST_0, PySem.W.mg_of X G y_LEAST, (fun S => (kt_mk (us := [.int (1) kt_LEAST_0_0, .int (1) kt_LEAST_0_1, .int (0) kt_LEAST_0_2, .int (0) kt_LEAST_0_3, .int (0) kt_LEAST_0_4, .int (0) kt_LEAST_0_5, .int (0) kt_LEAST_0_6, .int (0) kt_LEAST_0_7, .int (1) kt_LEAST_0_8, .int (0) kt_LEAST_0_9]) (xs := [.int (1), .int (1), .int (0), .int (0), .int (0), .int (0), .int (0), .int (0), .int (1), .int (0)]) kl_LEAST_0 (by simp) (.cons ⟨_, rfl⟩ (.cons ⟨_, rfl⟩ (.cons ⟨_, rfl⟩ (.cons ⟨_, rfl⟩ (.cons ⟨_, rfl⟩ (.cons ⟨_, rfl⟩ (.cons ⟨_, rfl⟩ (.cons ⟨_, rfl⟩ (.cons ⟨_, rfl⟩ (.cons ⟨_, rfl⟩ .nil)))))))))) (.cons (.int _) (.cons (.int _) (.cons (.int _) (.cons (.int _) (.cons (.int _) (.cons (.int _) (.cons (.int _) (.cons (.int _) (.cons (.int _) (.cons (.int _) .nil)))))))))))), kA_MOST_0, PySem.W.mg_of X G y_MOST, (fun S => (kt_mk (us := [.int (2000) kt_MOST_0_0, .int (2000) kt_MOST_0_1, .int (2000) kt_MOST_0_2, .int (2000) kt_MOST_0_3, .int (2000) kt_MOST_0_4, .int (2000) kt_MOST_0_5, .int (2000) kt_MOST_0_6, .int (2000) kt_MOST_0_7, .int (4) kt_MOST_0_8, .int (40) kt_MOST_0_9]) (xs := [.int (2000), .int (2000), .int (2000), .int (2000), .int (2000), .int (2000), .int (2000), .int (2000), .int (4), .int (40)]) kl_MOST_0 (by simp) (.cons ⟨_, rfl⟩ (.cons ⟨_, rfl⟩ (.cons ⟨_, rfl⟩ (.cons ⟨_, rfl⟩ (.cons ⟨_, rfl⟩ (.cons ⟨_, rfl⟩ (.cons ⟨_, rfl⟩ (.cons ⟨_, rfl⟩ (.cons ⟨_, rfl⟩ (.cons ⟨_, rfl⟩ .nil)))))))))) (.cons (.int _) (.cons (.int _) (.cons (.int _) (.cons (.int _) (.cons (.int _) (.cons (.int _) (.cons (.int _) (.cons (.int _) (.cons (.int _) (.cons (.int _) .nil)))))))))))), A_BadBook, PySem.W.mg_of X G x_BadBook, A_LaidError, PySem.W.mg_of X G x_LaidError, A_TooLarge, PySem.W.mg_of X G x_TooLarge, ⟨⟨_, _, _, _, _, _, _, _, _, _, _, _, _, _, _, X1_BadBook, X2_BadBook⟩, X3_BadBook, X4_BadBook, X5_BadBook, X6_BadBook⟩, fI_BadBook, _, X7_BadBook, X8_BadBook, FI_BadBook, bI_BadBook, Y0_BadBook, ⟨Xc_BadBook, Xd_BadBook, X4_BadBook, Xe_BadBook⟩, ⟨Xc_BadBook, Xd_BadBook, X4_BadBook, Xe_BadBook, Xf_BadBook, Xg_BadBook, Xh_BadBook, Xi_BadBook⟩, E_BadBook_BadBook, Q_BadBook_LaidError, Q_BadBook_TooLarge, Q_BadBook_ValueError, A_Book, PySem.W.mg_of X G x_Book, ⟨P1_Book, P2_Book, P3_Book, P4_Book⟩, ⟨M1_Book, M2_Book, M3_Book, M4_Book⟩, N_Book_columns, N_Book_field_values, N_Book_full, N_Book_gutter, N_Book_height, N_Book_joint, N_Book_keep, N_Book_orphan, N_Book_over, N_Book_room, N_Book_wait, N_Book_widow, ⟨m1_Book___eq__, m2_Book___eq__, k3⟩, ⟨m1_Book_changed, m2_Book_changed, k4⟩, nf_Book, ⟨⟨P1_Book, P2_Book, P3_Book, P4_Book⟩, I1_Book, I2_Book, I3_Book, I4_Book, Q_Book_self, tyAll_of Q_Book_NoneType Q_Book_bool Q_Book_int Q_Book_str Q_Book_list Q_Book_tuple Q_Book_dict⟩, (tyAll_of W_Book_NoneType W_Book_bool W_Book_int W_Book_str W_Book_list W_Book_tuple W_Book_dict), ⟨R1_Book, R2_Book⟩, kA_Book_FIELDS_0, (fun S => (kt_mk (us := [.str "room" kt_Book_FIELDS_0_0, .str "height" kt_Book_FIELDS_0_1, .str "joint" kt_Book_FIELDS_0_2, .str "over" kt_Book_FIELDS_0_3, .str "keep" kt_Book_FIELDS_0_4, .str "orphan" kt_Book_FIELDS_0_5, .str "widow" kt_Book_FIELDS_0_6, .str "wait" kt_Book_FIELDS_0_7, .str "columns" kt_Book_FIELDS_0_8, .str "gutter" kt_Book_FIELDS_0_9, .str "full" kt_Book_FIELDS_0_10]) (xs := [.str "room", .str "height", .str "joint", .str "over", .str "keep", .str "orphan", .str "widow", .str "wait", .str "columns", .str "gutter", .str "full"]) kl_Book_FIELDS_0 (by simp) (.cons ⟨_, rfl⟩ (.cons ⟨_, rfl⟩ (.cons ⟨_, rfl⟩ (.cons ⟨_, rfl⟩ (.cons ⟨_, rfl⟩ (.cons ⟨_, rfl⟩ (.cons ⟨_, rfl⟩ (.cons ⟨_, rfl⟩ (.cons ⟨_, rfl⟩ (.cons ⟨_, rfl⟩ (.cons ⟨_, rfl⟩ .nil))))))))))) (.cons (.str _) (.cons (.str _) (.cons (.str _) (.cons (.str _) (.cons (.str _) (.cons (.str _) (.cons (.str _) (.cons (.str _) (.cons (.str _) (.cons (.str _) (.cons (.str _) .nil))))))))))))), ⟨V_Book_FIELDS, rfl⟩⟩, rfl, rfl⟩
def spLaw (K : PySem.W.Frag) : Sp := fun vs H Q _ => ∃ (a : Addr) (ns : List Int), vs = [.ref a] ∧ SqL K H a (ns.map V.int) ∧ ns.length ≤ 63 ∧ ∀ H', Q (.bl true) H'
theorem ok_end {P : Program} {w : World} {K : PySem.W.Frag} {mg : Str → Option Value} {base : Heap} (T : Txt K mg) : FnOk P w K mg base (L2.CX P w) 11 T.f_law T.fd_law ["_law_script"] (spLaw K) := FnOk.imp (ok_law T) fun vs H Q E ⟨a, ns, e, hS, hl, k⟩ => by
  subst e
  exact law_sp (law_true ns hl) hS k
theorem all_mk {l : PySem.W.OpenLaw} {w : World} {K : PySem.W.Frag} {h : Heap} {mg : Str → Option Value} {fa : Addr} (X : K.In h) (G : h.Ns mainGlobals mg) (hfa : mg "law" = some (.ref fa))
    {f0 : Addr} {oc0 kV0 dc0 pm0 cd0 ct0 : Value} {od0 an0 : Option Addr} {sl0 : Array (Option Value)}
    {f1 : Addr} {oc1 kV1 dc1 pm1 cd1 ct1 : Value} {od1 an1 : Option Addr} {sl1 : Array (Option Value)}
    {f2 : Addr} {oc2 dc2 pm2 cd2 ct2 : Value} {od2 an2 : Option Addr} {sl2 : Array (Option Value)}
    {kwD2 : Addr} {kwt2_0 kwt2_1 kwt2_2 kwt2_3 kwt2_4 kwt2_5 kwt2_6 kwt2_7 : Tok}
    {f3 : Addr} {oc3 kV3 dc3 pm3 cd3 ct3 : Value} {od3 an3 : Option Addr} {sl3 : Array (Option Value)}
    {f4 : Addr} {oc4 kV4 dc4 pm4 cd4 ct4 : Value} {od4 an4 : Option Addr} {sl4 : Array (Option Value)}
    {f5 : Addr} {oc5 kV5 dc5 pm5 cd5 ct5 : Value} {od5 an5 : Option Addr} {sl5 : Array (Option Value)}
    {f6 : Addr} {oc6 kV6 dc6 pm6 cd6 ct6 : Value} {od6 an6 : Option Addr} {sl6 : Array (Option Value)}
    {f7 : Addr} {oc7 kV7 dc7 pm7 cd7 ct7 : Value} {od7 an7 : Option Addr} {sl7 : Array (Option Value)}
    {f8 : Addr} {oc8 kV8 dc8 pm8 cd8 ct8 : Value} {od8 an8 : Option Addr} {sl8 : Array (Option Value)}
    {f9 : Addr} {oc9 kV9 dc9 pm9 cd9 ct9 : Value} {od9 an9 : Option Addr} {sl9 : Array (Option Value)}
    {f10 : Addr} {oc10 kV10 dc10 pm10 cd10 ct10 : Value} {od10 an10 : Option Addr} {sl10 : Array (Option Value)}
    {f11 : Addr} {oc11 kV11 dc11 pm11 cd11 ct11 : Value} {od11 an11 : Option Addr} {sl11 : Array (Option Value)}
    {f12 : Addr} {oc12 kV12 dc12 pm12 cd12 ct12 : Value} {od12 an12 : Option Addr} {sl12 : Array (Option Value)}
    {f13 : Addr} {oc13 kV13 dc13 pm13 cd13 ct13 : Value} {od13 an13 : Option Addr} {sl13 : Array (Option Value)}
    {f14 : Addr} {oc14 kV14 dc14 pm14 cd14 ct14 : Value} {od14 an14 : Option Addr} {sl14 : Array (Option Value)}
    {f15 : Addr} {oc15 kV15 dc15 pm15 cd15 ct15 : Value} {od15 an15 : Option Addr} {sl15 : Array (Option Value)}
    {f16 : Addr} {oc16 kV16 dc16 pm16 cd16 ct16 : Value} {od16 an16 : Option Addr} {sl16 : Array (Option Value)}
    {f17 : Addr} {oc17 kV17 dc17 pm17 cd17 ct17 : Value} {od17 an17 : Option Addr} {sl17 : Array (Option Value)}
    {f18 : Addr} {oc18 kV18 dc18 pm18 cd18 ct18 : Value} {od18 an18 : Option Addr} {sl18 : Array (Option Value)}
    {f19 : Addr} {oc19 kV19 dc19 pm19 cd19 ct19 : Value} {od19 an19 : Option Addr} {sl19 : Array (Option Value)}
    {f20 : Addr} {oc20 kV20 dc20 pm20 cd20 ct20 : Value} {od20 an20 : Option Addr} {sl20 : Array (Option Value)}
    {f21 : Addr} {oc21 kV21 dc21 pm21 cd21 ct21 : Value} {od21 an21 : Option Addr} {sl21 : Array (Option Value)}
    {f22 : Addr} {oc22 kV22 dc22 pm22 cd22 ct22 : Value} {od22 an22 : Option Addr} {sl22 : Array (Option Value)}
    {f23 : Addr} {oc23 kV23 dc23 pm23 cd23 ct23 : Value} {od23 an23 : Option Addr} {sl23 : Array (Option Value)}
    {kt_LEAST_0_0 : Tok}
    {kt_LEAST_0_1 : Tok}
    {kt_LEAST_0_2 : Tok}
    {kt_LEAST_0_3 : Tok}
    {kt_LEAST_0_4 : Tok}
    {kt_LEAST_0_5 : Tok}
    {kt_LEAST_0_6 : Tok}
    {kt_LEAST_0_7 : Tok}
    {kt_LEAST_0_8 : Tok}
    {kt_LEAST_0_9 : Tok}
    {kA_LEAST_0 : Addr} {kod_LEAST_0 : Option Addr} {kn_LEAST_0 : Nat} {ksl_LEAST_0 : Array (Option Value)}
    {kt_MOST_0_0 : Tok}
    {kt_MOST_0_1 : Tok}
    {kt_MOST_0_2 : Tok}
    {kt_MOST_0_3 : Tok}
    {kt_MOST_0_4 : Tok}
    {kt_MOST_0_5 : Tok}
    {kt_MOST_0_6 : Tok}
    {kt_MOST_0_7 : Tok}
    {kt_MOST_0_8 : Tok}
    {kt_MOST_0_9 : Tok}
    {kA_MOST_0 : Addr} {kod_MOST_0 : Option Addr} {kn_MOST_0 : Nat} {ksl_MOST_0 : Array (Option Value)}
    {A_BadBook : Addr}
    {A_LaidError : Addr}
    {A_TooLarge : Addr}
    {nm_BadBook qq_BadBook : Str} {N_BadBook fI_BadBook : Addr} {bs_BadBook bm_BadBook : List Value} {sn_BadBook : List Str} {sb_BadBook : List Value} {ab_BadBook : Bool} {co_BadBook : Option Bool} {dd_BadBook od_BadBook an_BadBook : Option Addr} {m0_BadBook m1_BadBook m2_BadBook m3_BadBook m5_BadBook : Option Value} {oc_BadBook kV_BadBook dc_BadBook pm_BadBook cd_BadBook ct_BadBook : Value} {sl_BadBook : Array (Option Value)}
    {A_Book : Addr}
    {kt_Book_FIELDS_0_0 : Tok}
    {kt_Book_FIELDS_0_1 : Tok}
    {kt_Book_FIELDS_0_2 : Tok}
    {kt_Book_FIELDS_0_3 : Tok}
    {kt_Book_FIELDS_0_4 : Tok}
    {kt_Book_FIELDS_0_5 : Tok}
    {kt_Book_FIELDS_0_6 : Tok}
    {kt_Book_FIELDS_0_7 : Tok}
    {kt_Book_FIELDS_0_8 : Tok}
    {kt_Book_FIELDS_0_9 : Tok}
    {kt_Book_FIELDS_0_10 : Tok}
    {kA_Book_FIELDS_0 : Addr} {kod_Book_FIELDS_0 : Option Addr} {kn_Book_FIELDS_0 : Nat} {ksl_Book_FIELDS_0 : Array (Option Value)}
    (a0 : PySem.W.nsIn K mainGlobals "is_number" = some (some (.ref f0)))
    (l0 : K.lookup f0 = some ⟨oc0, od0, .func (PySem.W.fnOf "is_number" "is_number" (defArgs s_is_number) (defBody s_is_number) (defScope s_is_number) .none kV0 dc0 pm0 an0 cd0 ct0), sl0⟩) (c0 : PySem.W.codeIn K cd0 "is_number" = true) (k0 : PySem.W.keepIn K (.ref f0) = true)
    (a1 : PySem.W.nsIn K mainGlobals "is_within" = some (some (.ref f1)))
    (l1 : K.lookup f1 = some ⟨oc1, od1, .func (PySem.W.fnOf "is_within" "is_within" (defArgs s_is_within) (defBody s_is_within) (defScope s_is_within) .none kV1 dc1 pm1 an1 cd1 ct1), sl1⟩) (c1 : PySem.W.codeIn K cd1 "is_within" = true) (k1 : PySem.W.keepIn K (.ref f1) = true)
    (l2 : K.lookup f2 = some ⟨oc2, od2, .func (PySem.W.fnOf "__init__" "Book.__init__" (defArgs s_Book_init) (defBody s_Book_init) (defScope s_Book_init) .none (.ref kwD2) dc2 pm2 an2 cd2 ct2), sl2⟩) (c2 : PySem.W.codeIn K cd2 "Book.__init__" = true) (k2 : PySem.W.keepIn K (.ref f2) = true)
    (kw2_0 : PySem.W.nsIn K kwD2 "joint" = some (some (.int (0) kwt2_0)))
    (kw2_1 : PySem.W.nsIn K kwD2 "over" = some (some (.int (100) kwt2_1)))
    (kw2_2 : PySem.W.nsIn K kwD2 "keep" = some (some (.int (0) kwt2_2)))
    (kw2_3 : PySem.W.nsIn K kwD2 "orphan" = some (some (.int (0) kwt2_3)))
    (kw2_4 : PySem.W.nsIn K kwD2 "widow" = some (some (.int (0) kwt2_4)))
    (kw2_5 : PySem.W.nsIn K kwD2 "wait" = some (some (.int (0) kwt2_5)))
    (kw2_6 : PySem.W.nsIn K kwD2 "columns" = some (some (.int (1) kwt2_6)))
    (kw2_7 : PySem.W.nsIn K kwD2 "gutter" = some (some (.int (1) kwt2_7)))
    (kw2_8 : PySem.W.nsIn K kwD2 "full" = some (some (.bool false)))
    (l3 : K.lookup f3 = some ⟨oc3, od3, .func (PySem.W.fnOf "__eq__" "Book.__eq__" (defArgs s_Book_eq) (defBody s_Book_eq) (defScope s_Book_eq) .none kV3 dc3 pm3 an3 cd3 ct3), sl3⟩) (c3 : PySem.W.codeIn K cd3 "Book.__eq__" = true) (k3 : PySem.W.keepIn K (.ref f3) = true)
    (l4 : K.lookup f4 = some ⟨oc4, od4, .func (PySem.W.fnOf "changed" "Book.changed" (defArgs s_Book_changed) (defBody s_Book_changed) (defScope s_Book_changed) .none kV4 dc4 pm4 an4 cd4 ct4), sl4⟩) (c4 : PySem.W.codeIn K cd4 "Book.changed" = true) (k4 : PySem.W.keepIn K (.ref f4) = true)
    (a5 : PySem.W.nsIn K mainGlobals "_law_cell" = some (some (.ref f5)))
    (l5 : K.lookup f5 = some ⟨oc5, od5, .func (PySem.W.fnOf "_law_cell" "_law_cell" (defArgs s_l_cell) (defBody s_l_cell) (defScope s_l_cell) .none kV5 dc5 pm5 an5 cd5 ct5), sl5⟩) (c5 : PySem.W.codeIn K cd5 "_law_cell" = true) (k5 : PySem.W.keepIn K (.ref f5) = true)
    (a6 : PySem.W.nsIn K mainGlobals "_law_row" = some (some (.ref f6)))
    (l6 : K.lookup f6 = some ⟨oc6, od6, .func (PySem.W.fnOf "_law_row" "_law_row" (defArgs s_l_row) (defBody s_l_row) (defScope s_l_row) .none kV6 dc6 pm6 an6 cd6 ct6), sl6⟩) (c6 : PySem.W.codeIn K cd6 "_law_row" = true) (k6 : PySem.W.keepIn K (.ref f6) = true)
    (a7 : PySem.W.nsIn K mainGlobals "_law_number" = some (some (.ref f7)))
    (l7 : K.lookup f7 = some ⟨oc7, od7, .func (PySem.W.fnOf "_law_number" "_law_number" (defArgs s_l_number) (defBody s_l_number) (defScope s_l_number) .none kV7 dc7 pm7 an7 cd7 ct7), sl7⟩) (c7 : PySem.W.codeIn K cd7 "_law_number" = true) (k7 : PySem.W.keepIn K (.ref f7) = true)
    (a8 : PySem.W.nsIn K mainGlobals "_law_same" = some (some (.ref f8)))
    (l8 : K.lookup f8 = some ⟨oc8, od8, .func (PySem.W.fnOf "_law_same" "_law_same" (defArgs s_l_same) (defBody s_l_same) (defScope s_l_same) .none kV8 dc8 pm8 an8 cd8 ct8), sl8⟩) (c8 : PySem.W.codeIn K cd8 "_law_same" = true) (k8 : PySem.W.keepIn K (.ref f8) = true)
    (a9 : PySem.W.nsIn K mainGlobals "_law_names" = some (some (.ref f9)))
    (l9 : K.lookup f9 = some ⟨oc9, od9, .func (PySem.W.fnOf "_law_names" "_law_names" (defArgs s_l_names) (defBody s_l_names) (defScope s_l_names) .none kV9 dc9 pm9 an9 cd9 ct9), sl9⟩) (c9 : PySem.W.codeIn K cd9 "_law_names" = true) (k9 : PySem.W.keepIn K (.ref f9) = true)
    (a10 : PySem.W.nsIn K mainGlobals "_law_bounds" = some (some (.ref f10)))
    (l10 : K.lookup f10 = some ⟨oc10, od10, .func (PySem.W.fnOf "_law_bounds" "_law_bounds" (defArgs s_l_bounds) (defBody s_l_bounds) (defScope s_l_bounds) .none kV10 dc10 pm10 an10 cd10 ct10), sl10⟩) (c10 : PySem.W.codeIn K cd10 "_law_bounds" = true) (k10 : PySem.W.keepIn K (.ref f10) = true)
    (a11 : PySem.W.nsIn K mainGlobals "_law_values" = some (some (.ref f11)))
    (l11 : K.lookup f11 = some ⟨oc11, od11, .func (PySem.W.fnOf "_law_values" "_law_values" (defArgs s_l_values) (defBody s_l_values) (defScope s_l_values) .none kV11 dc11 pm11 an11 cd11 ct11), sl11⟩) (c11 : PySem.W.codeIn K cd11 "_law_values" = true) (k11 : PySem.W.keepIn K (.ref f11) = true)
    (a12 : PySem.W.nsIn K mainGlobals "_law_odd" = some (some (.ref f12)))
    (l12 : K.lookup f12 = some ⟨oc12, od12, .func (PySem.W.fnOf "_law_odd" "_law_odd" (defArgs s_l_odd) (defBody s_l_odd) (defScope s_l_odd) .none kV12 dc12 pm12 an12 cd12 ct12), sl12⟩) (c12 : PySem.W.codeIn K cd12 "_law_odd" = true) (k12 : PySem.W.keepIn K (.ref f12) = true)
    (a13 : PySem.W.nsIn K mainGlobals "_law_fits" = some (some (.ref f13)))
    (l13 : K.lookup f13 = some ⟨oc13, od13, .func (PySem.W.fnOf "_law_fits" "_law_fits" (defArgs s_l_fits) (defBody s_l_fits) (defScope s_l_fits) .none kV13 dc13 pm13 an13 cd13 ct13), sl13⟩) (c13 : PySem.W.codeIn K cd13 "_law_fits" = true) (k13 : PySem.W.keepIn K (.ref f13) = true)
    (a14 : PySem.W.nsIn K mainGlobals "_law_due" = some (some (.ref f14)))
    (l14 : K.lookup f14 = some ⟨oc14, od14, .func (PySem.W.fnOf "_law_due" "_law_due" (defArgs s_l_due) (defBody s_l_due) (defScope s_l_due) .none kV14 dc14 pm14 an14 cd14 ct14), sl14⟩) (c14 : PySem.W.codeIn K cd14 "_law_due" = true) (k14 : PySem.W.keepIn K (.ref f14) = true)
    (a15 : PySem.W.nsIn K mainGlobals "_law_told" = some (some (.ref f15)))
    (l15 : K.lookup f15 = some ⟨oc15, od15, .func (PySem.W.fnOf "_law_told" "_law_told" (defArgs s_l_told) (defBody s_l_told) (defScope s_l_told) .none kV15 dc15 pm15 an15 cd15 ct15), sl15⟩) (c15 : PySem.W.codeIn K cd15 "_law_told" = true) (k15 : PySem.W.keepIn K (.ref f15) = true)
    (a16 : PySem.W.nsIn K mainGlobals "_law_book" = some (some (.ref f16)))
    (l16 : K.lookup f16 = some ⟨oc16, od16, .func (PySem.W.fnOf "_law_book" "_law_book" (defArgs s_l_book) (defBody s_l_book) (defScope s_l_book) .none kV16 dc16 pm16 an16 cd16 ct16), sl16⟩) (c16 : PySem.W.codeIn K cd16 "_law_book" = true) (k16 : PySem.W.keepIn K (.ref f16) = true)
    (a17 : PySem.W.nsIn K mainGlobals "_law_made" = some (some (.ref f17)))
    (l17 : K.lookup f17 = some ⟨oc17, od17, .func (PySem.W.fnOf "_law_made" "_law_made" (defArgs s_l_made) (defBody s_l_made) (defScope s_l_made) .none kV17 dc17 pm17 an17 cd17 ct17), sl17⟩) (c17 : PySem.W.codeIn K cd17 "_law_made" = true) (k17 : PySem.W.keepIn K (.ref f17) = true)
    (a18 : PySem.W.nsIn K mainGlobals "_law_one_changed" = some (some (.ref f18)))
    (l18 : K.lookup f18 = some ⟨oc18, od18, .func (PySem.W.fnOf "_law_one_changed" "_law_one_changed" (defArgs s_l_one_changed) (defBody s_l_one_changed) (defScope s_l_one_changed) .none kV18 dc18 pm18 an18 cd18 ct18), sl18⟩) (c18 : PySem.W.codeIn K cd18 "_law_one_changed" = true) (k18 : PySem.W.keepIn K (.ref f18) = true)
    (a19 : PySem.W.nsIn K mainGlobals "_law_some_changed" = some (some (.ref f19)))
    (l19 : K.lookup f19 = some ⟨oc19, od19, .func (PySem.W.fnOf "_law_some_changed" "_law_some_changed" (defArgs s_l_some_changed) (defBody s_l_some_changed) (defScope s_l_some_changed) .none kV19 dc19 pm19 an19 cd19 ct19), sl19⟩) (c19 : PySem.W.codeIn K cd19 "_law_some_changed" = true) (k19 : PySem.W.keepIn K (.ref f19) = true)
    (a20 : PySem.W.nsIn K mainGlobals "_law_some_due" = some (some (.ref f20)))
    (l20 : K.lookup f20 = some ⟨oc20, od20, .func (PySem.W.fnOf "_law_some_due" "_law_some_due" (defArgs s_l_some_due) (defBody s_l_some_due) (defScope s_l_some_due) .none kV20 dc20 pm20 an20 cd20 ct20), sl20⟩) (c20 : PySem.W.codeIn K cd20 "_law_some_due" = true) (k20 : PySem.W.keepIn K (.ref f20) = true)
    (a21 : PySem.W.nsIn K mainGlobals "_law_changes_are" = some (some (.ref f21)))
    (l21 : K.lookup f21 = some ⟨oc21, od21, .func (PySem.W.fnOf "_law_changes_are" "_law_changes_are" (defArgs s_l_changes_are) (defBody s_l_changes_are) (defScope s_l_changes_are) .none kV21 dc21 pm21 an21 cd21 ct21), sl21⟩) (c21 : PySem.W.codeIn K cd21 "_law_changes_are" = true) (k21 : PySem.W.keepIn K (.ref f21) = true)
    (a22 : PySem.W.nsIn K mainGlobals "_law_strange" = some (some (.ref f22)))
    (l22 : K.lookup f22 = some ⟨oc22, od22, .func (PySem.W.fnOf "_law_strange" "_law_strange" (defArgs s_l_strange) (defBody s_l_strange) (defScope s_l_strange) .none kV22 dc22 pm22 an22 cd22 ct22), sl22⟩) (c22 : PySem.W.codeIn K cd22 "_law_strange" = true) (k22 : PySem.W.keepIn K (.ref f22) = true)
    (a23 : PySem.W.nsIn K mainGlobals "law" = some (some (.ref f23)))
    (l23 : K.lookup f23 = some ⟨oc23, od23, .func (PySem.W.fnOf "law" "law" (defArgs s_law) (defBody s_law) (defScope s_law) .none kV23 dc23 pm23 an23 cd23 ct23), sl23⟩) (c23 : PySem.W.codeIn K cd23 "law" = true) (k23 : PySem.W.keepIn K (.ref f23) = true)
    (z_ValueError : PySem.W.nsIn K mainGlobals "ValueError" = some none)
    (z_bool : PySem.W.nsIn K mainGlobals "bool" = some none)
    (z_dict : PySem.W.nsIn K mainGlobals "dict" = some none)
    (z_int : PySem.W.nsIn K mainGlobals "int" = some none)
    (z_isinstance : PySem.W.nsIn K mainGlobals "isinstance" = some none)
    (z_len : PySem.W.nsIn K mainGlobals "len" = some none)
    (z_list : PySem.W.nsIn K mainGlobals "list" = some none)
    (z_min : PySem.W.nsIn K mainGlobals "min" = some none)
    (z_range : PySem.W.nsIn K mainGlobals "range" = some none)
    (z_str : PySem.W.nsIn K mainGlobals "str" = some none)
    (z_tuple : PySem.W.nsIn K mainGlobals "tuple" = some none)
    (z_zip : PySem.W.nsIn K mainGlobals "zip" = some none)
    (y_LEAST : PySem.W.nsIn K mainGlobals "LEAST" = some (some (.ref kA_LEAST_0)))
    (kl_LEAST_0 : K.lookup kA_LEAST_0 = some ⟨.type "tuple", kod_LEAST_0, .seq #[.int (1) kt_LEAST_0_0, .int (1) kt_LEAST_0_1, .int (0) kt_LEAST_0_2, .int (0) kt_LEAST_0_3, .int (0) kt_LEAST_0_4, .int (0) kt_LEAST_0_5, .int (0) kt_LEAST_0_6, .int (0) kt_LEAST_0_7, .int (1) kt_LEAST_0_8, .int (0) kt_LEAST_0_9] kn_LEAST_0, ksl_LEAST_0⟩)
    (y_MOST : PySem.W.nsIn K mainGlobals "MOST" = some (some (.ref kA_MOST_0)))
    (kl_MOST_0 : K.lookup kA_MOST_0 = some ⟨.type "tuple", kod_MOST_0, .seq #[.int (2000) kt_MOST_0_0, .int (2000) kt_MOST_0_1, .int (2000) kt_MOST_0_2, .int (2000) kt_MOST_0_3, .int (2000) kt_MOST_0_4, .int (2000) kt_MOST_0_5, .int (2000) kt_MOST_0_6, .int (2000) kt_MOST_0_7, .int (4) kt_MOST_0_8, .int (40) kt_MOST_0_9] kn_MOST_0, ksl_MOST_0⟩)
    (x_BadBook : PySem.W.nsIn K mainGlobals "BadBook" = some (some (.ref A_BadBook)))
    (x_LaidError : PySem.W.nsIn K mainGlobals "LaidError" = some (some (.ref A_LaidError)))
    (x_TooLarge : PySem.W.nsIn K mainGlobals "TooLarge" = some (some (.ref A_TooLarge)))
    (X1_BadBook : K.lookup A_BadBook = some (excClassObj nm_BadBook qq_BadBook A_BadBook N_BadBook bs_BadBook bm_BadBook true sn_BadBook sb_BadBook ab_BadBook co_BadBook dd_BadBook m0_BadBook m1_BadBook m2_BadBook m3_BadBook m5_BadBook "ValueError.__new__")) (X2_BadBook : PySem.HandSPX.refsVE bm_BadBook = true)
    (X3_BadBook : PySem.W.findIn K (.ref A_BadBook) "__setattr__" = some (some (.builtin "object.__setattr__"))) (X4_BadBook : PySem.W.subIn K (.ref A_BadBook) (.type "BaseException") = some true) (X5_BadBook : PySem.W.typeIn K (.ref A_BadBook) = some (.type "type")) (X6_BadBook : PySem.W.keepIn K (.ref A_BadBook) = true)
    (X7_BadBook : PySem.W.findIn K (.ref A_BadBook) "__init__" = some (some (.ref fI_BadBook))) (X8_BadBook : PySem.W.typeIn K (.ref fI_BadBook) = some (.type "function")) (X9_BadBook : K.lookup fI_BadBook = some ⟨oc_BadBook, od_BadBook, .func (PySem.W.fnOf "__init__" "BadBook.__init__" (defArgs s_BadBook) (defBody s_BadBook) (defScope s_BadBook) .none kV_BadBook dc_BadBook pm_BadBook an_BadBook cd_BadBook ct_BadBook), sl_BadBook⟩) (Xa_BadBook : PySem.W.codeIn K cd_BadBook "BadBook.__init__" = true) (Xb_BadBook : PySem.W.keepIn K (.ref fI_BadBook) = true)
    (Y0_BadBook : PySem.W.findIn K (.ref A_BadBook) "field" = some none)
    (Xc_BadBook : PySem.W.findIn K (.ref A_BadBook) "__getattribute__" = some (some (.builtin "BaseException.__getattribute__"))) (Xd_BadBook : PySem.W.findIn K (.ref A_BadBook) "__getattr__" = some none) (Xe_BadBook : PySem.W.hasDictIn K A_BadBook = true)
    (Xf_BadBook : PySem.W.findIn K (.ref A_BadBook) "__class__" = some (some (.builtin "object.__class__"))) (Xg_BadBook : PySem.W.specialIn K (.builtin "object.__class__") "__get__" = some (some (.builtin "getset_descriptor.__get__"))) (Xh_BadBook : PySem.W.takesIn K (.builtin "object.__class__") = some true) (Xi_BadBook : PySem.W.mroIn K A_BadBook (.type "object") = some true)
    (E_BadBook_BadBook : PySem.W.exmOne K (.ref A_BadBook) (.ref A_BadBook) = some true)
    (Q_BadBook_LaidError : PySem.W.kitOne K (.ref A_BadBook) (.ref A_LaidError) = some true)
    (Q_BadBook_TooLarge : PySem.W.kitOne K (.ref A_BadBook) (.ref A_TooLarge) = some false)
    (Q_BadBook_ValueError : PySem.W.kitOne K (.ref A_BadBook) (.type "ValueError") = some true)
    (x_Book : PySem.W.nsIn K mainGlobals "Book" = some (some (.ref A_Book))) (P1_Book : PySem.W.plainGet K A_Book Str.empty = true) (P2_Book : PySem.W.hasDictIn K A_Book = true) (P3_Book : PySem.W.plainOver K A_Book = true) (P4_Book : PySem.W.findIn K (.ref A_Book) "__setattr__" = some (some (.builtin "object.__setattr__")))
    (M1_Book : PySem.W.makesIn K A_Book = true) (M2_Book : PySem.W.findIn K (.ref A_Book) "__init__" = some (some (.ref f2))) (M3_Book : PySem.W.isFn K (.ref f2) = true) (M4_Book : PySem.W.keepIn K (.ref A_Book) = true)
    (N_Book_columns : PySem.W.findIn K (.ref A_Book) "columns" = some none)
    (N_Book_field_values : PySem.W.findIn K (.ref A_Book) "field_values" = some none)
    (N_Book_full : PySem.W.findIn K (.ref A_Book) "full" = some none)
    (N_Book_gutter : PySem.W.findIn K (.ref A_Book) "gutter" = some none)
    (N_Book_height : PySem.W.findIn K (.ref A_Book) "height" = some none)
    (N_Book_joint : PySem.W.findIn K (.ref A_Book) "joint" = some none)
    (N_Book_keep : PySem.W.findIn K (.ref A_Book) "keep" = some none)
    (N_Book_orphan : PySem.W.findIn K (.ref A_Book) "orphan" = some none)
    (N_Book_over : PySem.W.findIn K (.ref A_Book) "over" = some none)
    (N_Book_room : PySem.W.findIn K (.ref A_Book) "room" = some none)
    (N_Book_wait : PySem.W.findIn K (.ref A_Book) "wait" = some none)
    (N_Book_widow : PySem.W.findIn K (.ref A_Book) "widow" = some none)
    (m1_Book___eq__ : PySem.W.findIn K (.ref A_Book) "__eq__" = some (some (.ref f3))) (m2_Book___eq__ : PySem.W.isFn K (.ref f3) = true)
    (m1_Book_changed : PySem.W.findIn K (.ref A_Book) "changed" = some (some (.ref f4))) (m2_Book_changed : PySem.W.isFn K (.ref f4) = true)
    (nf_Book : PySem.W.notFirst K A_Book (.ref A_Book) = true)
    (I1_Book : PySem.W.findIn K (.ref A_Book) "__class__" = some (some (.builtin "object.__class__"))) (I2_Book : PySem.W.specialIn K (.builtin "object.__class__") "__get__" = some (some (.builtin "getset_descriptor.__get__"))) (I3_Book : PySem.W.takesIn K (.builtin "object.__class__") = some true) (I4_Book : PySem.W.mroIn K A_Book (.type "object") = some true) (Q_Book_self : PySem.W.kitOne K (.ref A_Book) (.ref A_Book) = some true)
    (Q_Book_NoneType : PySem.W.kitOne K (.type "NoneType") (.ref A_Book) = some false)
    (Q_Book_bool : PySem.W.kitOne K (.type "bool") (.ref A_Book) = some false)
    (Q_Book_int : PySem.W.kitOne K (.type "int") (.ref A_Book) = some false)
    (Q_Book_str : PySem.W.kitOne K (.type "str") (.ref A_Book) = some false)
    (Q_Book_list : PySem.W.kitOne K (.type "list") (.ref A_Book) = some false)
    (Q_Book_tuple : PySem.W.kitOne K (.type "tuple") (.ref A_Book) = some false)
    (Q_Book_dict : PySem.W.kitOne K (.type "dict") (.ref A_Book) = some false)
    (W_Book_NoneType : PySem.W.notFirst K A_Book (.type "NoneType") = true)
    (W_Book_bool : PySem.W.notFirst K A_Book (.type "bool") = true)
    (W_Book_int : PySem.W.notFirst K A_Book (.type "int") = true)
    (W_Book_str : PySem.W.notFirst K A_Book (.type "str") = true)
    (W_Book_list : PySem.W.notFirst K A_Book (.type "list") = true)
    (W_Book_tuple : PySem.W.notFirst K A_Book (.type "tuple") = true)
    (W_Book_dict : PySem.W.notFirst K A_Book (.type "dict") = true)
    (R1_Book : PySem.W.readsIn K A_Book (.type "type") = true) (R2_Book : PySem.W.specialIn K (.ref A_Book) "__getattribute__" = some (some (.builtin "type.__getattribute__")))
    (V_Book_FIELDS : PySem.W.findCls K (.ref A_Book) (.type "type") "FIELDS" = some (.val (.ref kA_Book_FIELDS_0)))
    (kl_Book_FIELDS_0 : K.lookup kA_Book_FIELDS_0 = some ⟨.type "tuple", kod_Book_FIELDS_0, .seq #[.str "room" kt_Book_FIELDS_0_0, .str "height" kt_Book_FIELDS_0_1, .str "joint" kt_Book_FIELDS_0_2, .str "over" kt_Book_FIELDS_0_3, .str "keep" kt_Book_FIELDS_0_4, .str "orphan" kt_Book_FIELDS_0_5, .str "widow" kt_Book_FIELDS_0_6, .str "wait" kt_Book_FIELDS_0_7, .str "columns" kt_Book_FIELDS_0_8, .str "gutter" kt_Book_FIELDS_0_9, .str "full" kt_Book_FIELDS_0_10] kn_Book_FIELDS_0, ksl_Book_FIELDS_0⟩) :
    ∃ fd : FuncData, (∀ (s : Shared) (v : Value), BindsTo s fd ⟨[v], []⟩ [("_law_script", v)]) ∧ ∀ base : Heap, K.In base → base.Ns mainGlobals mg → FnOk l.prog w K mg base (L2.CX l.prog w) 11 fa fd ["_law_script"] (spLaw K) := by
  have e := hfa.symm.trans (PySem.W.mg_of X G a23)
  cases e
  obtain ⟨T, e1, e2⟩ := txt_mk X G a0 l0 c0 k0 a1 l1 c1 k1 l2 c2 k2 kw2_0 kw2_1 kw2_2 kw2_3 kw2_4 kw2_5 kw2_6 kw2_7 kw2_8 l3 c3 k3 l4 c4 k4 a5 l5 c5 k5 a6 l6 c6 k6 a7 l7 c7 k7 a8 l8 c8 k8 a9 l9 c9 k9 a10 l10 c10 k10 a11 l11 c11 k11 a12 l12 c12 k12 a13 l13 c13 k13 a14 l14 c14 k14 a15 l15 c15 k15 a16 l16 c16 k16 a17 l17 c17 k17 a18 l18 c18 k18 a19 l19 c19 k19 a20 l20 c20 k20 a21 l21 c21 k21 a22 l22 c22 k22 a23 l23 c23 k23 z_ValueError z_bool z_dict z_int z_isinstance z_len z_list z_min z_range z_str z_tuple z_zip y_LEAST kl_LEAST_0 y_MOST kl_MOST_0 x_BadBook x_LaidError x_TooLarge X1_BadBook X2_BadBook X3_BadBook X4_BadBook X5_BadBook X6_BadBook X7_BadBook X8_BadBook X9_BadBook Xa_BadBook Xb_BadBook Y0_BadBook Xc_BadBook Xd_BadBook Xe_BadBook Xf_BadBook Xg_BadBook Xh_BadBook Xi_BadBook E_BadBook_BadBook Q_BadBook_LaidError Q_BadBook_TooLarge Q_BadBook_ValueError x_Book P1_Book P2_Book P3_Book P4_Book M1_Book M2_Book M3_Book M4_Book N_Book_columns N_Book_field_values N_Book_full N_Book_gutter N_Book_height N_Book_joint N_Book_keep N_Book_orphan N_Book_over N_Book_room N_Book_wait N_Book_widow m1_Book___eq__ m2_Book___eq__ m1_Book_changed m2_Book_changed nf_Book I1_Book I2_Book I3_Book I4_Book Q_Book_self Q_Book_NoneType Q_Book_bool Q_Book_int Q_Book_str Q_Book_list Q_Book_tuple Q_Book_dict W_Book_NoneType W_Book_bool W_Book_int W_Book_str W_Book_list W_Book_tuple W_Book_dict R1_Book R2_Book V_Book_FIELDS kl_Book_FIELDS_0
  refine ⟨PySem.W.fnOf "law" "law" (defArgs s_law) (defBody s_law) (defScope s_law) .none kV23 dc23 pm23 an23 cd23 ct23, fun s v => .of_eq rfl, fun base _ _ => ?_⟩
  have z := ok_end (P := l.prog) (w := w) (base := base) T
  rw [e1, e2] at z
  exact z
end Lk
end S_P_end
section S_P_top
set_option Elab.async false
set_option linter.all false
open PySem PySem.W PyProof.Rows
set_option maxRecDepth 100000 in
set_option maxHeartbeats 0 in
theorem PySem.Challenge.cw_laidforall_k35_books_holds : PySem.Challenge.rw_laidforall_k35_books.Holds := by
  w_on; o_law; k_head; (case hw => w_witness2)
  k_fill
  refine L2.walk_of (l := PySem.Challenge.rw_laidforall_k35_books) (n := 63) (k := 11) (x := "_law_script") (CX := fun w => L2.CX PySem.Challenge.rw_laidforall_k35_books.prog w) (sp := fun w => Lk.spLaw _) rfl (by decide) rfl ⟨rfl, by decide, by decide⟩ (fun w h Y => PySem.W.kIn_of Y) ?F (fun _ _ a ns hl _ hS => ⟨a, ns, rfl, hS, hl, fun _ => rfl⟩) (fun _ _ _ _ _ h => Dx.cx_never h)
  case F =>
    intro w mg fa h KX G hmg
    refine' Lk.all_mk KX G hmg ?a0 ?l0 ?c0 ?k0 ?a1 ?l1 ?c1 ?k1 ?l2 ?c2 ?k2 ?kw2_0 ?kw2_1 ?kw2_2 ?kw2_3 ?kw2_4 ?kw2_5 ?kw2_6 ?kw2_7 ?kw2_8 ?l3 ?c3 ?k3 ?l4 ?c4 ?k4 ?a5 ?l5 ?c5 ?k5 ?a6 ?l6 ?c6 ?k6 ?a7 ?l7 ?c7 ?k7 ?a8 ?l8 ?c8 ?k8 ?a9 ?l9 ?c9 ?k9 ?a10 ?l10 ?c10 ?k10 ?a11 ?l11 ?c11 ?k11 ?a12 ?l12 ?c12 ?k12 ?a13 ?l13 ?c13 ?k13 ?a14 ?l14 ?c14 ?k14 ?a15 ?l15 ?c15 ?k15 ?a16 ?l16 ?c16 ?k16 ?a17 ?l17 ?c17 ?k17 ?a18 ?l18 ?c18 ?k18 ?a19 ?l19 ?c19 ?k19 ?a20 ?l20 ?c20 ?k20 ?a21 ?l21 ?c21 ?k21 ?a22 ?l22 ?c22 ?k22 ?a23 ?l23 ?c23 ?k23 ?z_ValueError ?z_bool ?z_dict ?z_int ?z_isinstance ?z_len ?z_list ?z_min ?z_range ?z_str ?z_tuple ?z_zip ?y_LEAST ?kl_LEAST_0 ?y_MOST ?kl_MOST_0 ?x_BadBook ?x_LaidError ?x_TooLarge ?X1_BadBook ?X2_BadBook ?X3_BadBook ?X4_BadBook ?X5_BadBook ?X6_BadBook ?X7_BadBook ?X8_BadBook ?X9_BadBook ?Xa_BadBook ?Xb_BadBook ?Y0_BadBook ?Xc_BadBook ?Xd_BadBook ?Xe_BadBook ?Xf_BadBook ?Xg_BadBook ?Xh_BadBook ?Xi_BadBook ?E_BadBook_BadBook ?Q_BadBook_LaidError ?Q_BadBook_TooLarge ?Q_BadBook_ValueError ?x_Book ?P1_Book ?P2_Book ?P3_Book ?P4_Book ?M1_Book ?M2_Book ?M3_Book ?M4_Book ?N_Book_columns ?N_Book_field_values ?N_Book_full ?N_Book_gutter ?N_Book_height ?N_Book_joint ?N_Book_keep ?N_Book_orphan ?N_Book_over ?N_Book_room ?N_Book_wait ?N_Book_widow ?m1_Book___eq__ ?m2_Book___eq__ ?m1_Book_changed ?m2_Book_changed ?nf_Book ?I1_Book ?I2_Book ?I3_Book ?I4_Book ?Q_Book_self ?Q_Book_NoneType ?Q_Book_bool ?Q_Book_int ?Q_Book_str ?Q_Book_list ?Q_Book_tuple ?Q_Book_dict ?W_Book_NoneType ?W_Book_bool ?W_Book_int ?W_Book_str ?W_Book_list ?W_Book_tuple ?W_Book_dict ?R1_Book ?R2_Book ?V_Book_FIELDS ?kl_Book_FIELDS_0
    (case y_LEAST => k_is)
    (case y_MOST => k_is)
    (case x_BadBook => k_is)
    (case x_LaidError => k_is)
    (case x_TooLarge => k_is)
    (case x_Book => k_is)
    (case V_Book_FIELDS => k_is)
    (case kl_Book_FIELDS_0 => k_is)
    (case kl_LEAST_0 => k_is)
    (case kl_MOST_0 => k_is)
    (case M2_Book => k_is)
    (case m1_Book___eq__ => k_is)
    (case m1_Book_changed => k_is)
    (case a0 => k_is)
    (case l0 => k_is)
    (case c0 => k_is)
    (case k0 => k_is)
    (case a1 => k_is)
    (case l1 => k_is)
    (case c1 => k_is)
    (case k1 => k_is)
    (case l2 => k_is)
    (case c2 => k_is)
    (case k2 => k_is)
    (case kw2_0 => k_is)
    (case kw2_1 => k_is)
    (case kw2_2 => k_is)
    (case kw2_3 => k_is)
    (case kw2_4 => k_is)
    (case kw2_5 => k_is)
    (case kw2_6 => k_is)
    (case kw2_7 => k_is)
    (case kw2_8 => k_is)
    (case l3 => k_is)
    (case c3 => k_is)
    (case k3 => k_is)
    (case l4 => k_is)
    (case c4 => k_is)
    (case k4 => k_is)
    (case a5 => k_is)
    (case l5 => k_is)
    (case c5 => k_is)
    (case k5 => k_is)
    (case a6 => k_is)
    (case l6 => k_is)
    (case c6 => k_is)
    (case k6 => k_is)
    (case a7 => k_is)
    (case l7 => k_is)
    (case c7 => k_is)
    (case k7 => k_is)
    (case a8 => k_is)
    (case l8 => k_is)
    (case c8 => k_is)
    (case k8 => k_is)
    (case a9 => k_is)
    (case l9 => k_is)
    (case c9 => k_is)
    (case k9 => k_is)
    (case a10 => k_is)
    (case l10 => k_is)
    (case c10 => k_is)
    (case k10 => k_is)
    (case a11 => k_is)
    (case l11 => k_is)
    (case c11 => k_is)
    (case k11 => k_is)
    (case a12 => k_is)
    (case l12 => k_is)
    (case c12 => k_is)
    (case k12 => k_is)
    (case a13 => k_is)
    (case l13 => k_is)
    (case c13 => k_is)
    (case k13 => k_is)
    (case a14 => k_is)
    (case l14 => k_is)
    (case c14 => k_is)
    (case k14 => k_is)
    (case a15 => k_is)
    (case l15 => k_is)
    (case c15 => k_is)
    (case k15 => k_is)
    (case a16 => k_is)
    (case l16 => k_is)
    (case c16 => k_is)
    (case k16 => k_is)
    (case a17 => k_is)
    (case l17 => k_is)
    (case c17 => k_is)
    (case k17 => k_is)
    (case a18 => k_is)
    (case l18 => k_is)
    (case c18 => k_is)
    (case k18 => k_is)
    (case a19 => k_is)
    (case l19 => k_is)
    (case c19 => k_is)
    (case k19 => k_is)
    (case a20 => k_is)
    (case l20 => k_is)
    (case c20 => k_is)
    (case k20 => k_is)
    (case a21 => k_is)
    (case l21 => k_is)
    (case c21 => k_is)
    (case k21 => k_is)
    (case a22 => k_is)
    (case l22 => k_is)
    (case c22 => k_is)
    (case k22 => k_is)
    (case a23 => k_is)
    (case l23 => k_is)
    (case c23 => k_is)
    (case k23 => k_is)
    (case z_ValueError => k_is)
    (case z_bool => k_is)
    (case z_dict => k_is)
    (case z_int => k_is)
    (case z_isinstance => k_is)
    (case z_len => k_is)
    (case z_list => k_is)
    (case z_min => k_is)
    (case z_range => k_is)
    (case z_str => k_is)
    (case z_tuple => k_is)
    (case z_zip => k_is)
    (case X1_BadBook => k_is)
    (case X2_BadBook => decide +kernel)
    (case X3_BadBook => k_is)
    (case X4_BadBook => k_is)
    (case X5_BadBook => k_is)
    (case X6_BadBook => k_is)
    (case X7_BadBook => k_is)
    (case X8_BadBook => k_is)
    (case X9_BadBook => k_is)
    (case Xa_BadBook => k_is)
    (case Xb_BadBook => k_is)
    (case Y0_BadBook => k_is)
    (case Xc_BadBook => k_is)
    (case Xd_BadBook => k_is)
    (case Xe_BadBook => k_is)
    (case Xf_BadBook => k_is)
    (case Xg_BadBook => k_is)
    (case Xh_BadBook => k_is)
    (case Xi_BadBook => k_is)
    (case E_BadBook_BadBook => first | k_is | rfl | decide +kernel)
    (case Q_BadBook_LaidError => first | k_is | rfl | decide +kernel)
    (case Q_BadBook_TooLarge => first | k_is | rfl | decide +kernel)
    (case Q_BadBook_ValueError => first | k_is | rfl | decide +kernel)
    (case P1_Book => k_is)
    (case P2_Book => k_is)
    (case P3_Book => k_is)
    (case P4_Book => k_is)
    (case M1_Book => k_is)
    (case M3_Book => k_is)
    (case M4_Book => k_is)
    (case N_Book_columns => k_is)
    (case N_Book_field_values => k_is)
    (case N_Book_full => k_is)
    (case N_Book_gutter => k_is)
    (case N_Book_height => k_is)
    (case N_Book_joint => k_is)
    (case N_Book_keep => k_is)
    (case N_Book_orphan => k_is)
    (case N_Book_over => k_is)
    (case N_Book_room => k_is)
    (case N_Book_wait => k_is)
    (case N_Book_widow => k_is)
    (case m2_Book___eq__ => k_is)
    (case m2_Book_changed => k_is)
    (case nf_Book => k_is)
    (case I1_Book => k_is)
    (case I2_Book => k_is)
    (case I3_Book => k_is)
    (case I4_Book => k_is)
    (case Q_Book_self => first | k_is | rfl | decide +kernel)
    (case Q_Book_NoneType => first | k_is | rfl | decide +kernel)
    (case Q_Book_bool => first | k_is | rfl | decide +kernel)
    (case Q_Book_int => first | k_is | rfl | decide +kernel)
    (case Q_Book_str => first | k_is | rfl | decide +kernel)
    (case Q_Book_list => first | k_is | rfl | decide +kernel)
    (case Q_Book_tuple => first | k_is | rfl | decide +kernel)
    (case Q_Book_dict => first | k_is | rfl | decide +kernel)
    (case W_Book_NoneType => k_is)
    (case W_Book_bool => k_is)
    (case W_Book_int => k_is)
    (case W_Book_str => k_is)
    (case W_Book_list => k_is)
    (case W_Book_tuple => k_is)
    (case W_Book_dict => k_is)
    (case R1_Book => k_is)
    (case R2_Book => k_is)
end S_P_top
