import PyProof.Rows.All
import Wide.All
import OpenK.AllK
import Wide.FinOn
import HandS.ForMost
import HandS.ForExc
import HandS.Evl
import HandS.Walk
import HandS.IsInst
import HandS.TupAny
import HandS.Deep
import HandS.Flow
import HandS.Wide
import HandS.Text
import HandS.CallSlots
import HandS.ExcInit
import HandS.ExcField
import HandS.ExcIs
import KE.KExcIs
import HandS.FStr
import HandS.Iter
import HandS.Zip0
import PyProof.EnumMake
import PyProof.Draws
import HandS.Style
import HandS.ClsMeth
import KE.GoesMore
import KE.GoesZip
import PyProof.StrOps2
import PyProof.Rows.MatchSeqLen
import KE.KUnpack
import HandS.NoneIn
import HandS.More
import HandS.Star
import HandS.SlotsOwn
import HandS.OwnIter
import HandS.IterVal
import KE.KCallOwn
import KE.KOwnIter
import HandS.TupLen
import HandS.Property
import HandS.Conv
import HandS.SortRule
import KE.KDictDisplayH
import HandS.Defaults
import HandS.TryOnly
import HandS.SortInts
import HandS.SortOrd
import HandS.DictComp
import KE.DataMinMax
import KE.KDictCopyH
import HandS.ListItems
import PyProof.ListStr
import HandS.HotCalls
import PyProof.InstNe
import HandS.MakeKwOnly
import KE.KTupSum
import HandS.TryMany
import KE.KEqDict
import PyProof.EqKinds
import PySem.Challenge.RW_laidforall_k02_elder_siblings
set_option Elab.async false
set_option linter.all false
set_option maxRecDepth 100000
section S_DxA
set_option Elab.async false
set_option linter.all false
set_option maxRecDepth 100000
namespace Dx
open PySem L2
/-- data: what a value stands for, whatever its address -/
inductive D where
  | non
  | bl (b : Bool)
  | int (i : Int)
  | str (s : Str)
  | lst (xs : List D)
  | fz (xs : List D)
  | tup (xs : List D)
  | kt (xs : List D)
  | dk (ks : List Key) (vs : List D)
  | dt (ks : List (List Key)) (vs : List D)
  | obj (c : Str) (ns : List Str) (vs : List D)
  | own (k : Nat)
  | st (k : Nat) (rows : List (List D))
/-- where the classes of the text stand -/
abbrev CM := Str → Option Addr
/-- H' knows all that H knows -/
def Ex (H H' : Hp) : Prop := ∀ a o, H a = some o → H' a = some o
theorem Ex.refl {H : Hp} : Ex H H := fun _ _ h => h
theorem Ex.trans {H H1 H2 : Hp} (a : Ex H H1) (b : Ex H1 H2) : Ex H H2 := fun x o h => b x o (a x o h)
theorem Ex.nn {H H' : Hp} (e : Ex H H') {p : Addr} (h : H' p = none) : H p = none := by
  cases h1 : H p with
  | none => rfl
  | some o => rw [e p o h1] at h; cases h
theorem Ex.new {H : Hp} {p : Addr} {o : HO} (h : H p = none) : Ex H (upd H p o) := fun a u e => by
  rw [upd_ne (ne_of_none e h)]; exact e
theorem Ex.put {H H' : Hp} {p : Addr} {o : HO} (e : Ex H H') (h : H p = none) : Ex H (upd H' p o) := fun a u ha => by
  rw [upd_ne (ne_of_none ha h)]; exact e a u ha
theorem Ex.both {S H : Hp} {p : Addr} {o : HO} (e : Ex S H) : Ex (upd S p o) (upd H p o) := fun a u ha => by
  by_cases h : a = p
  · subst h; rw [upd_same] at ha ⊢; exact ha
  · rw [upd_ne h] at ha ⊢; exact e a u ha
theorem Ex.rd {H H' : Hp} {a : Addr} {u : HO} (e : Ex H H') (h : Rd H a u) : Rd H' a u := by
  rcases h with h | ⟨o, h⟩
  · exact .inl (e a _ h)
  · exact .inr ⟨o, e a _ h⟩
theorem Ex.l {K : PySem.W.Frag} {H H' : Hp} {a : Addr} {xs : List V} (e : Ex H H') (h : SqL K H a xs) : SqL K H' a xs := by
  rcases h with h | h
  · exact .inl (e.rd h)
  · exact .inr h
theorem Ex.t {K : PySem.W.Frag} {H H' : Hp} {a : Addr} {xs : List V} (e : Ex H H') (h : SqT K H a xs) : SqT K H' a xs := by
  rcases h with h | h
  · exact .inl (e.rd h)
  · exact .inr h
mutual
/-- the value v, at the heap S, stands for the data -/
inductive Rp (K : PySem.W.Frag) (cm : CM) (S : Hp) : V → D → Prop
  | non : Rp K cm S .non .non
  | bl (b : Bool) : Rp K cm S (.bl b) (.bl b)
  | int (i : Int) : Rp K cm S (.int i) (.int i)
  | str (x : Str) : Rp K cm S (.str x) (.str x)
  | lst {a : Addr} {xs : List V} {ds : List D} : S a = some (.lst xs) → RpA K cm S xs ds → Rp K cm S (.ref a) (.lst ds)
  | fz {a : Addr} {xs : List V} {ds : List D} : SqL K S a xs → RpA K cm S xs ds → Rp K cm S (.ref a) (.fz ds)
  | tup {a : Addr} {xs : List V} {ds : List D} : S a = some (.tup xs) → RpA K cm S xs ds → Rp K cm S (.ref a) (.tup ds)
  | kt {a : Addr} {xs : List V} {ds : List D} : SqT K S a xs → RpA K cm S xs ds → Rp K cm S (.ref a) (.kt ds)
  | dk {a : Addr} {w : Obj} {kvs : List (Key × V)} {ks : List Key} {ds : List D} : S a = some (.frz w (.dK kvs)) → ks = kvs.map (·.1) → RpA K cm S (kvs.map (·.2)) ds → Rp K cm S (.ref a) (.dk ks ds)
  | dt {a : Addr} {w : Obj} {kvs : List (List Key × V)} {ks : List (List Key)} {ds : List D} : S a = some (.frz w (.dT kvs)) → ks = kvs.map (·.1) → RpA K cm S (kvs.map (·.2)) ds → Rp K cm S (.ref a) (.dt ks ds)
  | obj {a C dx : Addr} {c : Str} {fs : List (Str × V)} {ns : List Str} {ds : List D} : cm c = some C → S a = some (.ins C dx fs) → ns = fs.map (·.1) → RpA K cm S (fs.map (·.2)) ds → Rp K cm S (.ref a) (.obj c ns ds)
inductive RpA (K : PySem.W.Frag) (cm : CM) (S : Hp) : List V → List D → Prop
  | nil : RpA K cm S [] []
  | cons {v : V} {vs : List V} {d : D} {ds : List D} : Rp K cm S v d → RpA K cm S vs ds → RpA K cm S (v :: vs) (d :: ds)
end
section
variable {K : PySem.W.Frag} {cm : CM} {S S' : Hp}
mutual
theorem Rp.mono (e : Ex S S') : ∀ {v : V} {d : D}, Rp K cm S v d → Rp K cm S' v d
  | _, .non, h => by cases h; exact .non
  | _, .bl _, h => by cases h; exact .bl _
  | _, .int _, h => by cases h; exact .int _
  | _, .str _, h => by cases h; exact .str _
  | _, .lst ds, h => by cases h with | lst q r => exact .lst (e _ _ q) (RpA.mono e r)
  | _, .fz ds, h => by cases h with | fz q r => exact .fz (e.l q) (RpA.mono e r)
  | _, .tup ds, h => by cases h with | tup q r => exact .tup (e _ _ q) (RpA.mono e r)
  | _, .kt ds, h => by cases h with | kt q r => exact .kt (e.t q) (RpA.mono e r)
  | _, .dk _ ds, h => by cases h with | dk q k r => exact .dk (e _ _ q) k (RpA.mono e r)
  | _, .dt _ ds, h => by cases h with | dt q k r => exact .dt (e _ _ q) k (RpA.mono e r)
  | _, .obj _ _ ds, h => by cases h with | obj c q k r => exact .obj c (e _ _ q) k (RpA.mono e r)
theorem RpA.mono (e : Ex S S') : ∀ {vs : List V} {ds : List D}, RpA K cm S vs ds → RpA K cm S' vs ds
  | _, [], h => by cases h; exact .nil
  | _, d :: ds, h => by cases h with | cons a r => exact .cons (Rp.mono e a) (RpA.mono e r)
end
theorem RpA.length : ∀ {vs : List V} {ds : List D}, RpA K cm S vs ds → vs.length = ds.length
  | _, _, .nil => rfl
  | _, _, .cons _ r => by simp [RpA.length r]
theorem RpA.get : ∀ {vs : List V} {ds : List D} {i : Nat} {d : D}, RpA K cm S vs ds → ds[i]? = some d → ∃ v, vs[i]? = some v ∧ Rp K cm S v d
  | _, _, _, _, .nil, e => by simp at e
  | _, _, 0, _, .cons h _, e => by simp at e; subst e; exact ⟨_, by simp, h⟩
  | _, _, i + 1, d, .cons _ r, e => by
    obtain ⟨v, h1, h2⟩ := RpA.get (i := i) (d := d) r (by simpa using e)
    exact ⟨v, by simpa using h1, h2⟩
theorem RpA.getV : ∀ {vs : List V} {ds : List D} {i : Nat} {v : V}, RpA K cm S vs ds → vs[i]? = some v → ∃ d, ds[i]? = some d ∧ Rp K cm S v d
  | _, _, _, _, .nil, e => by simp at e
  | _, _, 0, _, .cons h _, e => by simp at e; subst e; exact ⟨_, by simp, h⟩
  | _, _, i + 1, v, .cons _ r, e => by
    obtain ⟨d, h1, h2⟩ := RpA.getV (i := i) (v := v) r (by simpa using e)
    exact ⟨d, by simpa using h1, h2⟩
theorem RpA.app : ∀ {vs us : List V} {ds es : List D}, RpA K cm S vs ds → RpA K cm S us es → RpA K cm S (vs ++ us) (ds ++ es)
  | _, _, _, _, .nil, s => s
  | _, _, _, _, .cons h r, s => .cons h (RpA.app r s)
theorem RpA.one {v : V} {d : D} (h : Rp K cm S v d) : RpA K cm S [v] [d] := .cons h .nil
theorem RpA.take : ∀ {vs : List V} {ds : List D} (n : Nat), RpA K cm S vs ds → RpA K cm S (vs.take n) (ds.take n)
  | _, _, 0, _ => .nil
  | _, _, _ + 1, .nil => .nil
  | _, _, n + 1, .cons h r => .cons h (RpA.take n r)
theorem RpA.drop : ∀ {vs : List V} {ds : List D} (n : Nat), RpA K cm S vs ds → RpA K cm S (vs.drop n) (ds.drop n)
  | _, _, 0, r => r
  | _, _, _ + 1, .nil => .nil
  | _, _, n + 1, .cons _ r => RpA.drop n r
theorem RpA.set {v : V} {d : D} (h : Rp K cm S v d) : ∀ {vs : List V} {ds : List D} (i : Nat), RpA K cm S vs ds → RpA K cm S (vs.set i v) (ds.set i d)
  | _, _, _, .nil => .nil
  | _, _, 0, .cons _ r => .cons h r
  | _, _, i + 1, .cons q r => .cons q (RpA.set h i r)
theorem RpA.reverse : ∀ {vs : List V} {ds : List D}, RpA K cm S vs ds → RpA K cm S vs.reverse ds.reverse
  | _, _, .nil => .nil
  | _, _, .cons h r => by rw [List.reverse_cons, List.reverse_cons]; exact (RpA.reverse r).app (.one h)
end
/-- the content of a mutable object stands for the data, its parts at S -/
inductive RpO (K : PySem.W.Frag) (cm : CM) (S : Hp) : HO → D → Prop
  | lst {xs : List V} {ds : List D} : RpA K cm S xs ds → RpO K cm S (.lst xs) (.lst ds)
  | dk {kvs : List (Key × V)} {ks : List Key} {ds : List D} : ks = kvs.map (·.1) → RpA K cm S (kvs.map (·.2)) ds → RpO K cm S (.dK kvs) (.dk ks ds)
  | dt {kvs : List (List Key × V)} {ks : List (List Key)} {ds : List D} : ks = kvs.map (·.1) → RpA K cm S (kvs.map (·.2)) ds → RpO K cm S (.dT kvs) (.dt ks ds)
  | obj {C dx : Addr} {c : Str} {fs : List (Str × V)} {ns : List Str} {ds : List D} : cm c = some C → ns = fs.map (·.1) → RpA K cm S (fs.map (·.2)) ds → RpO K cm S (.ins C dx fs) (.obj c ns ds)
theorem RpO.mono {K : PySem.W.Frag} {cm : CM} {S S' : Hp} (e : Ex S S') {o : HO} {d : D} (h : RpO K cm S o d) : RpO K cm S' o d := by
  cases h with
  | lst r => exact .lst (r.mono e)
  | dk k r => exact .dk k (r.mono e)
  | dt k r => exact .dt k (r.mono e)
  | obj c k r => exact .obj c k (r.mono e)
def isDct : D → Bool
  | .dk _ _ => true
  | .dt _ _ => true
  | _ => false
theorem RpO.pub {K : PySem.W.Frag} {cm : CM} {S : Hp} {o : HO} {d : D} {p : Addr} (h : RpO K cm S o d) (nd : isDct d = false) (hp : S p = o) : Rp K cm S (.ref p) d := by
  cases h with
  | lst r => exact .lst hp r
  | dk k r => cases nd
  | dt k r => cases nd
  | obj c k r => exact .obj c hp k r
theorem RpO.pubD {K : PySem.W.Frag} {cm : CM} {S : Hp} {o : HO} {d : D} {p : Addr} {w : Obj} (h : RpO K cm S o d) (nd : isDct d = true) (hp : S p = some (.frz w o)) : Rp K cm S (.ref p) d ∧ Mut (some o) := by
  cases h with
  | lst r => cases nd
  | dk k r => exact ⟨.dk hp k r, trivial⟩
  | dt k r => exact ⟨.dt hp k r, trivial⟩
  | obj c k r => cases nd
theorem RpO.mut {K : PySem.W.Frag} {cm : CM} {S : Hp} {o : HO} {d : D} (h : RpO K cm S o d) : Mut (some o) := by
  cases h <;> trivial
/-- not there, or a tuple -/
def Old (o : Option HO) : Prop := o = none ∨ ∃ xs, o = some (.tup xs)
theorem Old.back {H H' : Hp} (e : Ex H H') {a : Addr} (h : Old (H' a)) : Old (H a) := by
  cases q : H a with
  | none => exact .inl rfl
  | some u =>
    rw [e a u q] at h
    rcases h with h | ⟨xs, h⟩
    · cases h
    · cases h; exact .inr ⟨xs, rfl⟩
theorem Old.not {H : Hp} {a : Addr} {o : HO} (h : Old (H a)) (q : H a = some o) : ∃ xs, o = .tup xs := by
  rw [q] at h
  rcases h with h | ⟨xs, h⟩
  · cases h
  · cases h; exact ⟨xs, rfl⟩
/-- S is the part of H that stays; from (S, H) to (S', H') nothing known has changed -/
structure Fwd (S H S' H' : Hp) : Prop where
  s : Ex S S'
  h : Ex H H'
  sub : Ex S' H'
  new : ∀ a o, S' a = some o → S a = none → Old (H a)
theorem Fwd.refl {S H : Hp} (e : Ex S H) : Fwd S H S H := ⟨Ex.refl, Ex.refl, e, fun a o h n => by rw [n] at h; cases h⟩
theorem Fwd.trans {S H S1 H1 S2 H2 : Hp} (a : Fwd S H S1 H1) (b : Fwd S1 H1 S2 H2) : Fwd S H S2 H2 :=
  ⟨a.s.trans b.s, a.h.trans b.h, b.sub, fun p o h n => by
    cases e : S1 p with
    | some u => exact a.new p u e n
    | none => exact (b.new p o h e).back a.h⟩
theorem Fwd.both {S H : Hp} {p : Addr} {o : HO} (e : Ex S H) (n : H p = none) : Fwd S H (upd S p o) (upd H p o) :=
  ⟨Ex.new (e.nn n), Ex.new n, e.both, fun a u h m => by
    by_cases ha : a = p
    · subst ha; exact .inl n
    · rw [upd_ne ha, m] at h; cases h⟩
theorem Fwd.heap {S H : Hp} {p : Addr} {o : HO} (e : Ex S H) (n : H p = none) : Fwd S H S (upd H p o) :=
  ⟨Ex.refl, Ex.new n, e.put (e.nn n), fun a u h m => by rw [m] at h; cases h⟩
/-- a new object known to H' alone becomes one that stays -/
theorem Fwd.pub {S H S' H' : Hp} {p : Addr} {o : HO} (f : Fwd S H S' H') (n : H p = none) (ns : S' p = none) (h : H' p = some o) : Fwd S H (upd S' p o) H' :=
  ⟨f.s.trans (Ex.new ns), f.h, fun a u ha => by
    by_cases hh : a = p
    · subst hh; rw [upd_same] at ha; rw [h]; exact ha
    · rw [upd_ne hh] at ha; exact f.sub a u ha, fun a u ha m => by
    by_cases hh : a = p
    · subst hh; exact .inl n
    · rw [upd_ne hh] at ha; exact f.new a u ha m⟩
inductive Res (α : Type) where
  | ok (a : α)
  | err (c : Str) (ns : List Str) (vs : List D)
  | bad
@[inline] def Res.bind {α β : Type} : Res α → (α → Res β) → Res β
  | .ok a, k => k a
  | .err c ns vs, _ => .err c ns vs
  | .bad, _ => .bad
instance : Monad Res where
  pure := Res.ok
  bind := Res.bind
abbrev Rho := List (Option D)
/-- the end of a statement -/
inductive SR where
  | nx (r : Rho)
  | rt (d : D)
  | bk (r : Rho)
  | ct (r : Rho)
  | er (r : Rho) (c : Str) (ns : List Str) (vs : List D)
  | bad
inductive Ow where
  | v | o | b | w
  | s (pre : List Addr)
  | x (a C dd : Addr)
  | i (a : Addr)
def isO : Ow → Prop
  | .o => True
  | .i _ => True
  | _ => False
structure Cf where
  K : PySem.W.Frag
  cm : CM
  W : WX
  ge : Option (List Ow)
  rm : Bool
/-- a value, or a mutable object read at H whose parts stay -/
def RpB (K : PySem.W.Frag) (cm : CM) (S H : Hp) (v : V) (d : D) : Prop :=
  Rp K cm S v d ∨ ∃ p ho, v = .ref p ∧ H p = some ho ∧ RpO K cm S ho d
section
variable {K : PySem.W.Frag} {cm : CM} {S S' H H' : Hp} {v : V} {d : D}
theorem RpB.mono (h : RpB K cm S H v d) (e : Ex S S') (e' : Ex H H') : RpB K cm S' H' v d := by
  rcases h with h | ⟨p, ho, h1, h2, h3⟩
  · exact .inl (h.mono e)
  · exact .inr ⟨p, ho, h1, e' _ _ h2, h3.mono e⟩
theorem RpB.list {ds : List D} (h : RpB K cm S H v (.lst ds)) (e : Ex S H) : ∃ p xs, v = .ref p ∧ H p = some (.lst xs) ∧ RpA K cm S xs ds := by
  rcases h with h | ⟨p, ho, h1, h2, h3⟩
  · cases h with | lst q r => exact ⟨_, _, rfl, e _ _ q, r⟩
  · cases h3 with | lst r => exact ⟨p, _, h1, h2, r⟩
theorem RpB.int {i : Int} (h : RpB K cm S H v (.int i)) : v = .int i := by
  rcases h with h | ⟨p, ho, h1, h2, h3⟩
  · cases h; rfl
  · cases h3
theorem RpB.bl {b : Bool} (h : RpB K cm S H v (.bl b)) : v = .bl b := by
  rcases h with h | ⟨p, ho, h1, h2, h3⟩
  · cases h; rfl
  · cases h3
theorem RpB.non (h : RpB K cm S H v .non) : v = .non := by
  rcases h with h | ⟨p, ho, h1, h2, h3⟩
  · cases h; rfl
  · cases h3
theorem RpB.str {z : Str} (h : RpB K cm S H v (.str z)) : v = .str z := by
  rcases h with h | ⟨p, ho, h1, h2, h3⟩
  · cases h; rfl
  · cases h3
theorem RpB.tup {ds : List D} (h : RpB K cm S H v (.tup ds)) (e : Ex S H) : ∃ p xs, v = .ref p ∧ SqT K H p xs ∧ RpA K cm S xs ds ∧ S p = some (.tup xs) := by
  rcases h with h | ⟨p, ho, h1, h2, h3⟩
  · cases h with | tup q r => exact ⟨_, _, rfl, .inl (.inl (e _ _ q)), r, q⟩
  · cases h3
theorem RpB.kt {ds : List D} (h : RpB K cm S H v (.kt ds)) (e : Ex S H) : ∃ p xs, v = .ref p ∧ SqT K H p xs ∧ RpA K cm S xs ds ∧ SqT K S p xs := by
  rcases h with h | ⟨p, ho, h1, h2, h3⟩
  · cases h with | kt q r => exact ⟨_, _, rfl, e.t q, r, q⟩
  · cases h3
theorem RpB.fz {ds : List D} (h : RpB K cm S H v (.fz ds)) (e : Ex S H) : ∃ p xs, v = .ref p ∧ SqL K H p xs ∧ RpA K cm S xs ds := by
  rcases h with h | ⟨p, ho, h1, h2, h3⟩
  · cases h with | fz q r => exact ⟨_, _, rfl, e.l q, r⟩
  · cases h3
theorem RpB.dk {ks : List Key} {ds : List D} (h : RpB K cm S H v (.dk ks ds)) (e : Ex S H) : ∃ p kvs, v = .ref p ∧ Rd H p (.dK kvs) ∧ ks = kvs.map (·.1) ∧ RpA K cm S (kvs.map (·.2)) ds := by
  rcases h with h | ⟨p, ho, h1, h2, h3⟩
  · cases h with | dk q k r => exact ⟨_, _, rfl, .inr ⟨_, e _ _ q⟩, k, r⟩
  · cases h3 with | dk k r => exact ⟨p, _, h1, .inl h2, k, r⟩
theorem RpB.dt {ks : List (List Key)} {ds : List D} (h : RpB K cm S H v (.dt ks ds)) (e : Ex S H) : ∃ p kvs, v = .ref p ∧ Rd H p (.dT kvs) ∧ ks = kvs.map (·.1) ∧ RpA K cm S (kvs.map (·.2)) ds := by
  rcases h with h | ⟨p, ho, h1, h2, h3⟩
  · cases h with | dt q k r => exact ⟨_, _, rfl, .inr ⟨_, e _ _ q⟩, k, r⟩
  · cases h3 with | dt k r => exact ⟨p, _, h1, .inl h2, k, r⟩
theorem RpB.obj {n : Str} {ns : List Str} {ds : List D} (h : RpB K cm S H v (.obj n ns ds)) (e : Ex S H) : ∃ p C dx fs, v = .ref p ∧ cm n = some C ∧ H p = some (.ins C dx fs) ∧ ns = fs.map (·.1) ∧ RpA K cm S (fs.map (·.2)) ds := by
  rcases h with h | ⟨p, ho, h1, h2, h3⟩
  · cases h with | obj c q k r => exact ⟨_, _, _, _, rfl, c, e _ _ q, k, r⟩
  · cases h3 with | obj c k r => exact ⟨p, _, _, _, h1, c, h2, k, r⟩
end
/-- a value, or one of the own lists at the places A -/
def RmV (K : PySem.W.Frag) (cm : CM) (A : List Addr) (S : Hp) (v : V) (d : D) : Prop := Rp K cm S v d ∨ ∃ k a, d = .own k ∧ A[k]? = some a ∧ v = .ref a
def RmA (K : PySem.W.Frag) (cm : CM) (A : List Addr) (S : Hp) (vs : List V) (ds : List D) : Prop := vs.length = ds.length ∧ ∀ (i : Nat) v d, vs[i]? = some v → ds[i]? = some d → RmV K cm A S v d
def SlotOk (c : Cf) (H0 S H : Hp) : Ow → V → D → Prop
  | .v, v, d => Rp c.K c.cm S v d
  | .o, v, d => ∃ p ho, v = .ref p ∧ H p = some ho ∧ S p = none ∧ H0 p = none ∧ RpO c.K c.cm S ho d
  | .i a, v, d => v = .ref a ∧ ∃ p ho, v = .ref p ∧ H p = some ho ∧ S p = none ∧ H0 p = none ∧ RpO c.K c.cm S ho d
  | .b, v, d => RpB c.K c.cm S H0 v d
  | .s _, v, d => ∃ k M, d = .st k M
  | .w, v, d => ∃ k, d = .own k
  | .x a C dd, v, d => v = .ref a ∧ ∃ n ns ds fs, d = .obj n ns ds ∧ c.cm n = some C ∧ S dd = some (.xd fs) ∧ ns = fs.map (·.1) ∧ RpA c.K c.cm S (fs.map (·.2)) ds
abbrev kd (G : List Ow) (i : Nat) : Ow := G.getD i .v
/-- the own lists that stand in each other, at the places A -/
structure StoOk (K : PySem.W.Frag) (cm : CM) (H0 : Hp) (G : List Ow) (S H : Hp) (σ : St) (r : Rho) (A : List Addr) : Prop where
  nod : A.Nodup
  out : ∀ a ∈ A, S a = none ∧ H0 a = none ∧ ∃ xs, H a = some (.lst xs)
  own : ∀ i d p, r[i]? = some (some d) → isO (kd G i) → σ[i]? = some (some (.ref p)) → p ∉ A
  st : ∀ i k M P, kd G i = .s P → r[i]? = some (some (.st k M)) → (P <+: A ∧ A.length = M.length) ∧ (∃ a, A[k]? = some a ∧ σ[i]? = some (some (.ref a))) ∧ ∀ (n : Nat) row, M[n]? = some row → ∃ a xs, A[n]? = some a ∧ H a = some (.lst xs) ∧ RmA K cm A S xs row
  al : ∀ i k, kd G i = .w → r[i]? = some (some (.own k)) → ∃ a, A[k]? = some a ∧ σ[i]? = some (some (.ref a))
theorem RmA.mono {K : PySem.W.Frag} {cm : CM} {A : List Addr} {S S' : Hp} {vs : List V} {ds : List D} (h : RmA K cm A S vs ds) (e : Ex S S') : RmA K cm A S' vs ds :=
  ⟨h.1, fun i v d hv hd => (h.2 i v d hv hd).imp (fun z => z.mono e) id⟩
theorem StoOk.sub {K : PySem.W.Frag} {cm : CM} {H0 S H S' H' : Hp} {G G' : List Ow} {σ σ' : St} {r r' : Rho} {A : List Addr} (h : StoOk K cm H0 G S H σ r A) (hS : ∀ a ∈ A, S' a = none) (hH : ∀ a ∈ A, H' a = H a) (eS : Ex S S')
    (ho : ∀ i d p, r'[i]? = some (some d) → isO (kd G' i) → σ'[i]? = some (some (.ref p)) → p ∉ A)
    (hs : ∀ i d, (∃ P, kd G' i = .s P) ∨ kd G' i = .w → r'[i]? = some (some d) → kd G i = kd G' i ∧ r[i]? = some (some d) ∧ σ'[i]? = σ[i]?) : StoOk K cm H0 G' S' H' σ' r' A where
  nod := h.nod
  out := fun a ha => by
    obtain ⟨_, h2, h3⟩ := h.out a ha
    exact ⟨hS a ha, h2, by rw [hH a ha]; exact h3⟩
  own := ho
  st := fun i k M P hi hr => by
    obtain ⟨a1, a2, a3⟩ := hs i _ (.inl ⟨P, hi⟩) hr
    obtain ⟨b1, b2, b3⟩ := h.st i k M P (a1.trans hi) a2
    refine ⟨b1, by rw [a3]; exact b2, fun n row hn => ?_⟩
    obtain ⟨a, xs, c1, c2, c3⟩ := b3 n row hn
    exact ⟨a, xs, c1, by rw [hH a (List.mem_of_getElem? c1)]; exact c2, c3.mono eS⟩
  al := fun i k hi hr => by
    obtain ⟨a1, a2, a3⟩ := hs i _ (.inr hi) hr
    rw [a3]
    exact h.al i k (a1.trans hi) a2
theorem StoOk.go {K : PySem.W.Frag} {cm : CM} {H0 S H S' H' : Hp} {G : List Ow} {σ : St} {r : Rho} {A : List Addr} (h : StoOk K cm H0 G S H σ r A) (f : Fwd S H S' H') : StoOk K cm H0 G S' H' σ r A :=
  h.sub (fun a ha => by
    obtain ⟨h1, _, xs, h3⟩ := h.out a ha
    cases e : S' a with
    | none => rfl
    | some u => obtain ⟨ys, z⟩ := (f.new a u e h1).not h3; cases z) (fun a ha => by
    obtain ⟨_, _, xs, h3⟩ := h.out a ha
    rw [h3]; exact f.h a _ h3) f.s h.own fun i d hi hr => ⟨rfl, hr, rfl⟩
/-- no such lists -/
theorem StoOk.nil {K : PySem.W.Frag} {cm : CM} {H0 S H : Hp} {G : List Ow} {σ : St} {r : Rho} (h : ∀ i d, r[i]? = some (some d) → (∀ P, kd G i ≠ .s P) ∧ kd G i ≠ .w) : StoOk K cm H0 G S H σ r [] where
  nod := List.nodup_nil
  out := fun a ha => by cases ha
  own := fun i d p _ _ _ hp => by cases hp
  st := fun i k M P hi hr => absurd hi ((h i _ hr).1 P)
  al := fun i k hi hr => absurd hi (h i _ hr).2
structure EnvOk (c : Cf) (S0 H0 : Hp) (G : List Ow) (S H : Hp) (σ : St) (r : Rho) : Prop where
  fwd : Fwd S0 H0 S H
  len : σ.length = r.length
  slot : ∀ i d, r[i]? = some (some d) → ∃ v, σ[i]? = some (some v) ∧ SlotOk c H0 S H (kd G i) v d
  sep : ∀ i j d e p, r[i]? = some (some d) → r[j]? = some (some e) → isO (kd G i) → isO (kd G j) → σ[i]? = some (some (.ref p)) → σ[j]? = some (some (.ref p)) → i = j
  sto : ∃ A, StoOk c.K c.cm H0 G S H σ r A
section
variable {c : Cf} {S0 H0 S H S' H' : Hp} {G : List Ow} {σ : St} {r : Rho}
theorem SlotOk.o_of {k : Ow} {v : V} {d : D} (h : SlotOk c H0 S H k v d) (q : isO k) : ∃ p ho, v = .ref p ∧ H p = some ho ∧ S p = none ∧ H0 p = none ∧ RpO c.K c.cm S ho d := by
  cases k with
  | o => exact h
  | i a => exact h.2
  | _ => cases q
theorem SlotOk.mono {k : Ow} {v : V} {d : D} (h : SlotOk c H0 S H k v d) (f : Fwd S H S' H') : SlotOk c H0 S' H' k v d := by
  cases k with
  | v => exact Rp.mono f.s h
  | o =>
    obtain ⟨p, ho, h1, h2, h3, h4, h5⟩ := h
    refine ⟨p, ho, h1, f.h p _ h2, ?_, h4, h5.mono f.s⟩
    cases e : S' p with
    | none => rfl
    | some u => obtain ⟨ys, z⟩ := (f.new p u e h3).not h2; subst z; cases h5
  | i a =>
    obtain ⟨h0, p, ho, h1, h2, h3, h4, h5⟩ := h
    refine ⟨h0, p, ho, h1, f.h p _ h2, ?_, h4, h5.mono f.s⟩
    cases e : S' p with
    | none => rfl
    | some u => obtain ⟨ys, z⟩ := (f.new p u e h3).not h2; subst z; cases h5
  | b => exact RpB.mono h f.s Ex.refl
  | s P => exact h
  | w => exact h
  | x a C dd =>
    obtain ⟨h1, n, ns, ds, fs, h2, h3, h4, h5, h6⟩ := h
    exact ⟨h1, n, ns, ds, fs, h2, h3, f.s _ _ h4, h5, h6.mono f.s⟩
theorem EnvOk.go (e : EnvOk c S0 H0 G S H σ r) (f : Fwd S H S' H') : EnvOk c S0 H0 G S' H' σ r :=
  ⟨e.fwd.trans f, e.len, fun i d h => let ⟨v, h1, h2⟩ := e.slot i d h; ⟨v, h1, h2.mono f⟩, e.sep, let ⟨A, h⟩ := e.sto; ⟨A, h.go f⟩⟩
theorem EnvOk.ex (e : EnvOk c S0 H0 G S H σ r) : Ex S H := e.fwd.sub
theorem kd_set_self (G : List Ow) (i : Nat) : kd (G.set i .v) i = .v := by
  show (G.set i .v).getD i .v = .v
  rw [List.getD_eq_getElem?_getD, List.getElem?_set]
  split
  · split <;> rfl
  · rename_i h; exact absurd rfl h
theorem kd_set_ne {G : List Ow} {i j : Nat} {k : Ow} (h : i ≠ j) : kd (G.set i k) j = kd G j := by
  show (G.set i k).getD j .v = G.getD j .v
  rw [List.getD_eq_getElem?_getD, List.getD_eq_getElem?_getD, List.getElem?_set_ne h]
theorem kd_set_o {G : List Ow} {i : Nat} {k : Ow} (h : i < G.length) : kd (G.set i k) i = k := by
  show (G.set i k).getD i .v = k
  rw [List.getD_eq_getElem?_getD, List.getElem?_set_self h]; rfl
theorem set_some {α : Type} {l : List (Option α)} {i j : Nat} {a : Option α} {b : α} (h : (l.set i a)[j]? = some (some b)) : (i = j ∧ a = some b ∧ i < l.length) ∨ (i ≠ j ∧ l[j]? = some (some b)) := by
  by_cases e : i = j
  · subst e
    rw [List.getElem?_set] at h
    rw [if_pos rfl] at h
    split at h
    · rename_i hl; exact .inl ⟨rfl, Option.some.inj h, hl⟩
    · cases h
  · rw [List.getElem?_set_ne e] at h
    exact .inr ⟨e, h⟩
/-- a slot gets a value -/
theorem EnvOk.setV (e : EnvOk c S0 H0 G S H σ r) {v : V} {d : D} (i : Nat) (h : Rp c.K c.cm S v d) : EnvOk c S0 H0 (G.set i .v) S H (σ.set i (some v)) (r.set i (some d)) := by
  refine ⟨e.fwd, by simp [e.len], fun j b hb => ?_, fun j k b b' p hj hk kj kk sj sk => ?_, let ⟨A, hA⟩ := e.sto; ⟨A, hA.sub (fun a ha => (hA.out a ha).1) (fun _ _ => rfl) Ex.refl (fun j b q hj kj sj => ?_) fun j b kj hj => ?_⟩⟩
  · rcases set_some hb with ⟨rfl, ea, hl⟩ | ⟨ne, hb⟩
    · cases ea
      exact ⟨v, by rw [List.getElem?_set_self (by rw [e.len]; exact hl)], by rw [kd_set_self]; exact h⟩
    · obtain ⟨u, h1, h2⟩ := e.slot j b hb
      exact ⟨u, by rw [List.getElem?_set_ne ne]; exact h1, by rw [kd_set_ne ne]; exact h2⟩
  · have nj : i ≠ j := fun z => by subst z; rw [kd_set_self] at kj; cases kj
    have nk : i ≠ k := fun z => by subst z; rw [kd_set_self] at kk; cases kk
    rw [List.getElem?_set_ne nj] at hj sj
    rw [List.getElem?_set_ne nk] at hk sk
    rw [kd_set_ne nj] at kj
    rw [kd_set_ne nk] at kk
    exact e.sep j k b b' p hj hk kj kk sj sk
  · have nj : i ≠ j := fun z => by subst z; rw [kd_set_self] at kj; cases kj
    rw [List.getElem?_set_ne nj] at hj sj
    rw [kd_set_ne nj] at kj
    exact hA.own j b q hj kj sj
  · have nj : i ≠ j := fun z => by subst z; rw [kd_set_self] at kj; rcases kj with ⟨_, kj⟩ | kj <;> cases kj
    rw [List.getElem?_set_ne nj] at hj
    rw [kd_set_ne nj, List.getElem?_set_ne nj]
    exact ⟨rfl, hj, rfl⟩
/-- a slot gets a new mutable object -/
theorem EnvOk.setO (e : EnvOk c S0 H0 G S H σ r) (f : Fwd S H S' H') {p : Addr} {ho : HO} {d : D} (i : Nat) (hi : i < G.length) (n : H p = none) (ns : S' p = none) (hp : H' p = some ho) (h : RpO c.K c.cm S' ho d) :
    EnvOk c S0 H0 (G.set i .o) S' H' (σ.set i (some (.ref p))) (r.set i (some d)) := by
  have e' := e.go f
  have fresh : ∀ j b, r[j]? = some (some b) → isO (kd G j) → σ[j]? ≠ some (some (.ref p)) := fun j b hb kj sj => by
    obtain ⟨u, h1, h2⟩ := e.slot j b hb
    obtain ⟨q, ho', z1, z2, _⟩ := h2.o_of kj
    rw [sj] at h1; cases h1; cases z1
    rw [n] at z2; cases z2
  refine ⟨e'.fwd, by simp [e.len], fun j b hb => ?_, fun j k b b' q hj hk kj kk sj sk => ?_, let ⟨A, hA⟩ := e.sto; ⟨A, (hA.go f).sub (fun a ha => ((hA.go f).out a ha).1) (fun _ _ => rfl) Ex.refl (fun j b q hj kj sj => ?_) fun j b kj hj => ?_⟩⟩
  · rcases set_some hb with ⟨rfl, ea, hl⟩ | ⟨ne, hb⟩
    · cases ea
      refine ⟨.ref p, by rw [List.getElem?_set_self (by rw [e.len]; exact hl)], ?_⟩
      rw [kd_set_o hi]
      exact ⟨p, ho, rfl, hp, ns, e.fwd.h.nn n, h⟩
    · obtain ⟨u, h1, h2⟩ := e'.slot j b hb
      exact ⟨u, by rw [List.getElem?_set_ne ne]; exact h1, by rw [kd_set_ne ne]; exact h2⟩
  · by_cases nj : i = j
    · by_cases nk : i = k
      · rw [← nj, nk]
      · subst nj
        exfalso
        rcases set_some sj with ⟨_, ea, _⟩ | ⟨ne, _⟩
        · cases ea
          rw [List.getElem?_set_ne nk] at hk sk
          rw [kd_set_ne nk] at kk
          exact fresh k _ hk kk sk
        · exact ne rfl
    · by_cases nk : i = k
      · subst nk
        exfalso
        rcases set_some sk with ⟨_, ea, _⟩ | ⟨ne, _⟩
        · cases ea
          rw [List.getElem?_set_ne nj] at hj sj
          rw [kd_set_ne nj] at kj
          exact fresh j _ hj kj sj
        · exact ne rfl
      · rw [List.getElem?_set_ne nj] at hj sj
        rw [List.getElem?_set_ne nk] at hk sk
        rw [kd_set_ne nj] at kj
        rw [kd_set_ne nk] at kk
        exact e.sep j k b b' q hj hk kj kk sj sk
  · rcases set_some sj with ⟨_, ea, _⟩ | ⟨nj, sj⟩
    · cases ea
      intro ha
      obtain ⟨_, _, xs, h3⟩ := hA.out p ha
      rw [n] at h3; cases h3
    · rw [List.getElem?_set_ne nj] at hj
      rw [kd_set_ne nj] at kj
      exact hA.own j b q hj kj sj
  · have nj : i ≠ j := fun z => by subst z; rw [kd_set_o hi] at kj; rcases kj with ⟨_, kj⟩ | kj <;> cases kj
    rw [List.getElem?_set_ne nj] at hj
    rw [kd_set_ne nj, List.getElem?_set_ne nj]
    exact ⟨rfl, hj, rfl⟩
/-- the own object in slot i: its place -/
theorem EnvOk.ownI (e : EnvOk c S0 H0 G S H σ r) {i : Nat} {d : D} (k : isO (kd G i)) (h : r[i]? = some (some d)) : ∃ p ho, σ[i]? = some (some (.ref p)) ∧ H p = some ho ∧ S p = none ∧ H0 p = none ∧ RpO c.K c.cm S ho d := by
  obtain ⟨v, h1, h2⟩ := e.slot i d h
  obtain ⟨p, ho, rfl, h3⟩ := h2.o_of k
  exact ⟨p, ho, h1, h3⟩
/-- the own object in slot i is changed -/
theorem EnvOk.mutI (e : EnvOk c S0 H0 G S H σ r) {i : Nat} {d d' : D} {p : Addr} {ho' : HO} (k : isO (kd G i)) (h : r[i]? = some (some d)) (hs : σ[i]? = some (some (.ref p))) (h' : RpO c.K c.cm S ho' d') :
    EnvOk c S0 H0 G S (upd H p ho') σ (r.set i (some d')) := by
  obtain ⟨q, ho, s1, s2, s3, s4, s5⟩ := e.ownI k h
  rw [hs] at s1; cases s1
  have hf : Fwd S0 H0 S (upd H p ho') := ⟨e.fwd.s, e.fwd.h.put s4, e.fwd.sub.put s3, e.fwd.new⟩
  refine ⟨hf, by simp [e.len], fun j b hb => ?_, fun j l b b' q hj hk kj kk sj sk => ?_, let ⟨A, hA⟩ := e.sto; ⟨A, hA.sub (fun a ha => (hA.out a ha).1) (fun a ha => upd_ne fun z => hA.own i d p h k hs (z ▸ ha)) Ex.refl (fun j b q hj kj sj => ?_) fun j b kj hj => ?_⟩⟩
  · rcases set_some hb with ⟨rfl, ea, hl⟩ | ⟨ne, hb⟩
    · cases ea
      refine ⟨.ref p, hs, ?_⟩
      cases kk : kd G i with
      | o => exact ⟨p, ho', rfl, upd_same, s3, s4, h'⟩
      | i a =>
        obtain ⟨u, h1, h2⟩ := e.slot i d h
        rw [kk] at h2
        rw [hs] at h1; cases h1
        exact ⟨h2.1, p, ho', rfl, upd_same, s3, s4, h'⟩
      | _ => rw [kk] at k; cases k
    · obtain ⟨u, h1, h2⟩ := e.slot j b hb
      refine ⟨u, h1, ?_⟩
      cases kj : kd G j with
      | v => rw [kj] at h2; exact h2
      | b => rw [kj] at h2; exact h2
      | s P => rw [kj] at h2; exact h2
      | w => rw [kj] at h2; exact h2
      | x a C dd => rw [kj] at h2; exact h2
      | o =>
        rw [kj] at h2
        obtain ⟨q, hq, z1, z2, z3, z4, z5⟩ := h2
        subst z1
        have : q ≠ p := fun z => by subst z; exact ne (e.sep i j d b q h hb k (by rw [kj]; trivial) hs h1)
        exact ⟨q, hq, rfl, by rw [upd_ne this]; exact z2, z3, z4, z5⟩
      | i a =>
        rw [kj] at h2
        obtain ⟨z0, q, hq, z1, z2, z3, z4, z5⟩ := h2
        subst z1
        have : q ≠ p := fun z => by subst z; exact ne (e.sep i j d b q h hb k (by rw [kj]; trivial) hs h1)
        exact ⟨z0, q, hq, rfl, by rw [upd_ne this]; exact z2, z3, z4, z5⟩
  · have un : ∀ m b, (r.set i (some d'))[m]? = some (some b) → ∃ b', r[m]? = some (some b') := fun m b hm => by
      rcases set_some hm with ⟨rfl, _, _⟩ | ⟨_, hm⟩
      · exact ⟨d, h⟩
      · exact ⟨b, hm⟩
    obtain ⟨b1, hj⟩ := un j b hj
    obtain ⟨b2, hk⟩ := un l b' hk
    exact e.sep j l b1 b2 q hj hk kj kk sj sk
  · rcases set_some hj with ⟨nj, _, _⟩ | ⟨_, hj⟩
    · subst nj
      exact hA.own i d q h kj sj
    · exact hA.own j b q hj kj sj
  · rcases set_some hj with ⟨nj, _, _⟩ | ⟨_, hj⟩
    · subst nj
      rcases kj with ⟨_, kj⟩ | kj <;> (rw [kj] at k; cases k)
    · exact ⟨rfl, hj, rfl⟩
theorem isO_o {k : Ow} (h : k = .o) : isO k := by rw [h]; trivial
theorem EnvOk.own (e : EnvOk c S0 H0 G S H σ r) {i : Nat} {d : D} (k : kd G i = .o) (h : r[i]? = some (some d)) : ∃ p ho, σ[i]? = some (some (.ref p)) ∧ H p = some ho ∧ S p = none ∧ H0 p = none ∧ RpO c.K c.cm S ho d := e.ownI (isO_o k) h
theorem EnvOk.mut (e : EnvOk c S0 H0 G S H σ r) {i : Nat} {d d' : D} {p : Addr} {ho' : HO} (k : kd G i = .o) (h : r[i]? = some (some d)) (hs : σ[i]? = some (some (.ref p))) (h' : RpO c.K c.cm S ho' d') :
    EnvOk c S0 H0 G S (upd H p ho') σ (r.set i (some d')) := e.mutI (isO_o k) h hs h'
theorem StoOk.un {A : List Addr} (hA : StoOk c.K c.cm H0 G S H σ r A) (i : Nat) (hk : kd G i = .o ∨ kd G i = .v) (hS : ∀ a ∈ A, S' a = none) (eS : Ex S S') : StoOk c.K c.cm H0 (G.set i .v) S' H σ r A :=
  hA.sub hS (fun _ _ => rfl) eS (fun j b q hj kj sj => by
    have nj : i ≠ j := fun z => by subst z; rw [kd_set_self] at kj; cases kj
    rw [kd_set_ne nj] at kj
    exact hA.own j b q hj kj sj) fun j b kj hj => by
    have nj : i ≠ j := fun z => by subst z; rw [kd_set_self] at kj; rcases kj with ⟨_, kj⟩ | kj <;> cases kj
    rw [kd_set_ne nj]
    exact ⟨rfl, hj, rfl⟩
theorem EnvOk.sto_un (e : EnvOk c S0 H0 G S H σ r) (i : Nat) (hk : kd G i = .o ∨ kd G i = .v) : ∃ A, StoOk c.K c.cm H0 (G.set i .v) S H σ r A :=
  let ⟨A, hA⟩ := e.sto
  ⟨A, hA.un i hk (fun a ha => (hA.out a ha).1) Ex.refl⟩
/-- the own object in slot i becomes a value, as ho2 -/
theorem EnvOk.pubG (e : EnvOk c S0 H0 G S H σ r) (i : Nat) (k : kd G i = .o) {d : D} (h : r[i]? = some (some d)) {p : Addr} {ho ho2 : HO} (s1 : σ[i]? = some (some (.ref p))) (s2 : H p = some ho) (s3 : S p = none) (s4 : H0 p = none) (hrp : Rp c.K c.cm (upd S p ho2) (.ref p) d) :
    EnvOk c S0 H0 (G.set i .v) (upd S p ho2) (upd H p ho2) σ r := by
  have hk : kd G i = .o ∨ kd G i = .v := .inl k
  have ex : Ex S (upd S p ho2) := Ex.new s3
  refine ⟨⟨e.fwd.s.trans ex, e.fwd.h.put s4, e.fwd.sub.both, fun a u ha m => ?_⟩, e.len, fun j b hb => ?_, fun j l b b' q hj hk kj kk sj sk => ?_, let ⟨A, hA⟩ := e.sto; ⟨A, ?_⟩⟩
  · by_cases hh : a = p
    · subst hh; exact .inl s4
    · rw [upd_ne hh] at ha; exact e.fwd.new a u ha m
  · by_cases ne : i = j
    · subst ne
      rw [h] at hb; cases hb
      refine ⟨.ref p, s1, ?_⟩
      rw [kd_set_self]
      exact hrp
    · obtain ⟨u, h1, h2⟩ := e.slot j b hb
      refine ⟨u, h1, ?_⟩
      rw [kd_set_ne ne]
      cases kj : kd G j with
      | v => rw [kj] at h2; exact Rp.mono ex h2
      | b => rw [kj] at h2; exact RpB.mono h2 ex Ex.refl
      | s P => rw [kj] at h2; exact h2
      | w => rw [kj] at h2; exact h2
      | x a C dd =>
        rw [kj] at h2
        obtain ⟨y1, n, ns, ds, fs, y2, y3, y4, y5, y6⟩ := h2
        exact ⟨y1, n, ns, ds, fs, y2, y3, ex _ _ y4, y5, y6.mono ex⟩
      | o =>
        rw [kj] at h2
        obtain ⟨q, hq, z1, z2, z3, z4, z5⟩ := h2
        subst z1
        have : q ≠ p := fun z => by subst z; exact ne (e.sep i j d b q h hb (isO_o k) (isO_o kj) s1 h1)
        exact ⟨q, hq, rfl, by rw [upd_ne this]; exact z2, by rw [upd_ne this]; exact z3, z4, z5.mono ex⟩
      | i a =>
        rw [kj] at h2
        obtain ⟨z0, q, hq, z1, z2, z3, z4, z5⟩ := h2
        subst z1
        have : q ≠ p := fun z => by subst z; exact ne (e.sep i j d b q h hb (isO_o k) (by rw [kj]; trivial) s1 h1)
        exact ⟨z0, q, hq, rfl, by rw [upd_ne this]; exact z2, by rw [upd_ne this]; exact z3, z4, z5.mono ex⟩
  · have nj : i ≠ j := fun z => by subst z; rw [kd_set_self] at kj; cases kj
    have nl : i ≠ l := fun z => by subst z; rw [kd_set_self] at kk; cases kk
    rw [kd_set_ne nj] at kj
    rw [kd_set_ne nl] at kk
    exact e.sep j l b b' q hj hk kj kk sj sk
  · have np : ∀ a ∈ A, a ≠ p := fun a ha z => hA.own i d p h (isO_o k) s1 (z ▸ ha)
    refine hA.sub (fun a ha => by rw [upd_ne (np a ha)]; exact (hA.out a ha).1) (fun a ha => upd_ne (np a ha)) ex (fun j b q hj kj sj => ?_) fun j b kj hj => ?_
    · have nj : i ≠ j := fun z => by subst z; rw [kd_set_self] at kj; cases kj
      rw [kd_set_ne nj] at kj
      exact hA.own j b q hj kj sj
    · have nj : i ≠ j := fun z => by subst z; rw [kd_set_self] at kj; rcases kj with ⟨_, kj⟩ | kj <;> cases kj
      rw [kd_set_ne nj]
      exact ⟨rfl, hj, rfl⟩
theorem upd_eq {H : Hp} {p : Addr} {o : HO} (h : H p = some o) : upd H p o = H := by
  funext a
  by_cases e : a = p
  · rw [e, upd_same, h]
  · rw [upd_ne e]
/-- an own dict becomes a value: it is locked -/
theorem EnvOk.pubD (e : EnvOk c S0 H0 G S H σ r) (i : Nat) (k : kd G i = .o) {d : D} (h : r[i]? = some (some d)) (hd : isDct d = true) : ∃ p u, H p = some u ∧ Mut (some u) ∧ ∀ w, ∃ S', EnvOk c S0 H0 (G.set i .v) S' (upd H p (.frz w u)) σ r := by
  obtain ⟨p, ho, s1, s2, s3, s4, s5⟩ := e.own k h
  exact ⟨p, ho, s2, s5.mut, fun w => ⟨_, e.pubG i k h s1 s2 s3 s4 ((s5.mono (Ex.new s3)).pubD hd upd_same).1⟩⟩
/-- the own object in slot i becomes a value -/
theorem EnvOk.pub (e : EnvOk c S0 H0 G S H σ r) (i : Nat) (hk : kd G i = .o ∨ kd G i = .v) (nd : ∀ d, r[i]? = some (some d) → isDct d = false) : ∃ S', EnvOk c S0 H0 (G.set i .v) S' H σ r := by
  by_cases k : kd G i = .o
  · cases h : r[i]? with
    | none =>
      refine ⟨S, e.fwd, e.len, fun j b hb => ?_, fun j l b b' q hj hk kj kk sj sk => ?_, e.sto_un i hk⟩
      · have ne : i ≠ j := fun z => by subst z; rw [h] at hb; cases hb
        obtain ⟨u, h1, h2⟩ := e.slot j b hb
        exact ⟨u, h1, by rw [kd_set_ne ne]; exact h2⟩
      · have nj : i ≠ j := fun z => by subst z; rw [h] at hj; cases hj
        have nl : i ≠ l := fun z => by subst z; rw [h] at hk; cases hk
        rw [kd_set_ne nj] at kj
        rw [kd_set_ne nl] at kk
        exact e.sep j l b b' q hj hk kj kk sj sk
    | some od =>
      cases od with
      | none =>
        refine ⟨S, e.fwd, e.len, fun j b hb => ?_, fun j l b b' q hj hk kj kk sj sk => ?_, e.sto_un i hk⟩
        · have ne : i ≠ j := fun z => by subst z; rw [h] at hb; cases hb
          obtain ⟨u, h1, h2⟩ := e.slot j b hb
          exact ⟨u, h1, by rw [kd_set_ne ne]; exact h2⟩
        · have nj : i ≠ j := fun z => by subst z; rw [h] at hj; cases hj
          have nl : i ≠ l := fun z => by subst z; rw [h] at hk; cases hk
          rw [kd_set_ne nj] at kj
          rw [kd_set_ne nl] at kk
          exact e.sep j l b b' q hj hk kj kk sj sk
      | some d =>
        obtain ⟨p, ho, s1, s2, s3, s4, s5⟩ := e.own k h
        have := e.pubG i k h s1 s2 s3 s4 (ho2 := ho) ((s5.mono (Ex.new s3)).pub (nd d h) upd_same)
        rw [upd_eq s2] at this
        exact ⟨_, this⟩
  · have k' : kd G i = .v := hk.resolve_left k
    have all : ∀ j, kd (G.set i .v) j = kd G j := fun j => by
      by_cases ne : i = j
      · subst ne; rw [kd_set_self, k']
      · exact kd_set_ne ne
    exact ⟨S, e.fwd, e.len, fun j b hb => by rw [all]; exact e.slot j b hb, fun j l b b' q hj hk kj kk sj sk => e.sep j l b b' q hj hk ((all j) ▸ kj) ((all l) ▸ kk) sj sk, e.sto_un i hk⟩
end
end Dx
end S_DxA
section S_DxB
set_option Elab.async false
set_option linter.all false
set_option maxRecDepth 100000
set_option maxHeartbeats 2000000
namespace Dx
open PySem L2
/-- what is wanted behind a result, from (S, H) on -/
def PostG (c : Cf) (σ : St) (S H : Hp) {α : Type} (r : Res α) (k : α → Hp → Hp → Prop) : Prop :=
  match r with
  | .ok a => ∀ S' H', Fwd S H S' H' → k a S' H'
  | .err n ns vs => ∀ C dd S' H' fs, c.cm n = some C → Fwd S H S' H' → S' dd = some (.xd fs) → ns = fs.map (·.1) → RpA c.K c.cm S' (fs.map (·.2)) vs → c.W (.ref C) (some dd) σ H'
  | .bad => False
section
variable {c : Cf} {σ : St} {S H S1 H1 : Hp} {α β : Type} {r : Res α} {k k' : α → Hp → Hp → Prop}
theorem PostG.mono (h : PostG c σ S H r k) (f : Fwd S H S1 H1) : PostG c σ S1 H1 r k := by
  cases r with
  | ok a => exact fun S' H' g => h S' H' (f.trans g)
  | err n ns vs => exact fun C dd S' H' fs h1 g h2 h3 h4 => h C dd S' H' fs h1 (f.trans g) h2 h3 h4
  | bad => exact h
theorem PostG.imp (h : PostG c σ S H r k) (hk : ∀ a S' H', Fwd S H S' H' → k a S' H' → k' a S' H') : PostG c σ S H r k' := by
  cases r with
  | ok a => exact fun S' H' g => hk a S' H' g (h S' H' g)
  | err n ns vs => exact h
  | bad => exact h
theorem PostG.unbind {g : α → Res β} {k : β → Hp → Hp → Prop} (h : PostG c σ S H (r.bind g) k) : PostG c σ S H r fun a S' H' => PostG c σ S' H' (g a) k := by
  cases r with
  | ok a => exact fun S' H' f => PostG.mono (show PostG c σ S H (g a) k from h) f
  | err n ns vs => exact h
  | bad => exact h
end
/-- x where p holds; nothing is reckoned for it -/
noncomputable def guard {α : Type} (p : Prop) (x : Res α) : Res α := @ite _ p (Classical.propDecidable p) x .bad
theorem guard_pos {α : Type} {p : Prop} {x : Res α} (h : p) : guard p x = x := by unfold guard; exact if_pos h
theorem PostG.gd {c : Cf} {σ : St} {S H : Hp} {α : Type} {p : Prop} {x : Res α} {k : α → Hp → Hp → Prop} (h : PostG c σ S H (guard p x) k) : p ∧ PostG c σ S H x k := by
  by_cases hp : p
  · rw [guard_pos hp] at h; exact ⟨hp, h⟩
  · unfold guard at h; rw [if_neg hp] at h; exact h.elim
/-- a mode: what the heap ahead, the heaps behind, the machine's result and the data have in common -/
abbrev Md (β α : Type) := Hp → Hp → Hp → β → α → Prop
class Anti {β α : Type} (R : Md β α) : Prop where
  anti : ∀ {H H2 S' H' : Hp} {b : β} {a : α}, Ex H H2 → R H2 S' H' b a → R H S' H' b a
def mV (c : Cf) : Md V D := fun _ S' _ v d => Rp c.K c.cm S' v d
def mB (c : Cf) : Md V D := fun _ S' H' v d => RpB c.K c.cm S' H' v d
def mO (c : Cf) : Md V D := fun H S' H' v d => ∃ p ho, v = .ref p ∧ H p = none ∧ S' p = none ∧ H' p = some ho ∧ RpO c.K c.cm S' ho d
def mA (c : Cf) : Md (List V) (List D) := fun _ S' _ vs ds => RpA c.K c.cm S' vs ds
def mE (α : Type) : Md α α := fun _ _ _ b a => b = a
instance {c : Cf} : Anti (mV c) := ⟨fun _ h => h⟩
instance {c : Cf} : Anti (mB c) := ⟨fun _ h => h⟩
instance {c : Cf} : Anti (mA c) := ⟨fun _ h => h⟩
instance {α : Type} : Anti (mE α) := ⟨fun _ h => h⟩
instance {c : Cf} : Anti (mO c) := ⟨fun e ⟨p, ho, h1, h2, h3⟩ => ⟨p, ho, h1, e.nn h2, h3⟩⟩
/-- the reading of a piece whose data is f -/
def rd (c : Cf) (G : List Ow) {α β : Type} (f : Rho → Res α) (R : Md β α) : St → Hp → (β → Hp → Prop) → Prop := fun σ H Q =>
  ∃ S0 H0 S r, EnvOk c S0 H0 G S H σ r ∧ PostG c σ S H (f r) fun a S' H' => ∀ b, R H S' H' b a → Q b H'
abbrev tV (c : Cf) (G : List Ow) (f : Rho → Res D) : TE := rd c G f (mV c)
abbrev tR (c : Cf) (G : List Ow) (f : Rho → Res D) : TE := rd c G f (mB c)
abbrev tO (c : Cf) (G : List Ow) (f : Rho → Res D) : TE := rd c G f (mO c)
abbrev tT (c : Cf) (G : List Ow) (f : Rho → Res Bool) : TT := rd c G f (mE Bool)
abbrev tAs (c : Cf) (G : List Ow) (f : Rho → Res (List D)) : TA := rd c G f (mA c)
theorem pe_imp {X : Cx} {e : Expr} {t t' : TE} (h : PE X e t) (k : ∀ σ H Q, t' σ H Q → t σ H Q) : PE X e t' := ⟨fun pins s σ H Q I q => h.run pins s σ H Q I (k σ H Q q)⟩
theorem pt_imp {X : Cx} {e : Expr} {t t' : TT} (h : PT X e t) (k : ∀ σ H Q, t' σ H Q → t σ H Q) : PT X e t' := ⟨fun pins s σ H Q I q => h.run pins s σ H Q I (k σ H Q q)⟩
theorem pa_imp {X : Cx} {es : List Expr} {t t' : TA} (h : PA X es t) (k : ∀ σ H Q, t' σ H Q → t σ H Q) : PA X es t' := ⟨fun p pins s σ H Q I q => h.run p pins s σ H Q I (k σ H Q q)⟩
theorem ps_imp {X : Cx} {st : Stmt} {t t' : TS} (h : PS X st t) (k : ∀ E σ H, t' E σ H → t E σ H) : PS X st t' := ⟨fun pins s σ H E I q => h.run pins s σ H E I (k E σ H q)⟩
theorem pss_imp {X : Cx} {st : List Stmt} {t t' : TS} (h : PSs X st t) (k : ∀ E σ H, t' E σ H → t E σ H) : PSs X st t' := ⟨fun pins s σ H E I q => h.run pins s σ H E I (k E σ H q)⟩
section
variable {c : Cf} {G : List Ow} {σ : St} {S0 H0 S H : Hp} {r : Rho} {α β γ : Type}
/-- one piece, then what follows -/
theorem rd_seq {f : Rho → Res α} {R : Md β α} (e : EnvOk c S0 H0 G S H σ r) {g : α → Res γ} {k : γ → Hp → Hp → Prop} (p : PostG c σ S H ((f r).bind g) k) {Q : β → Hp → Prop}
    (h : ∀ a b S' H', Fwd S H S' H' → EnvOk c S0 H0 G S' H' σ r → R H S' H' b a → PostG c σ S' H' (g a) k → Q b H') : rd c G f R σ H Q :=
  ⟨S0, H0, S, r, e, p.unbind.imp fun a S' H' fw hk b hb => h a b S' H' fw (e.go fw) hb hk⟩
theorem PostG.anti {R : Md β α} [Anti R] {H2 : Hp} {x : Res α} {Q : β → Hp → Prop} (e : Ex H H2) {S2 : Hp} (p : PostG c σ S2 H2 x fun a S' H' => ∀ b, R H S' H' b a → Q b H') :
    PostG c σ S2 H2 x fun a S' H' => ∀ b, R H2 S' H' b a → Q b H' := p.imp fun _ _ _ _ hk b hb => hk b (Anti.anti e hb)
/-- the wish behind a value that is there -/
theorem PostG.here {R : Md β α} {a : α} {b : β} {Q : β → Hp → Prop} (p : PostG c σ S H (.ok a) fun a S' H' => ∀ b, R H S' H' b a → Q b H') (e : Ex S H) (h : R H S H b a) : Q b H := p S H (Fwd.refl e) b h
theorem PostG.go {a : α} {k : α → Hp → Hp → Prop} (p : PostG c σ S H (.ok a) k) (e : Ex S H) : k a S H := p S H (Fwd.refl e)
/-- .. behind a new object that stays; that is kept own -/
theorem PostG.laid {d : D} {o : HO} {q : Addr} {Q : VK} (p : PostG c σ S H (.ok d) fun a S' H' => ∀ b, mV c H S' H' b a → Q b H') (e : Ex S H) (n : H q = none) (h : Rp c.K c.cm (upd S q o) (.ref q) d) : Q (.ref q) (upd H q o) :=
  p _ _ (Fwd.both e n) _ h
theorem PostG.kept {d : D} {o : HO} {q : Addr} {Q : VK} (p : PostG c σ S H (.ok d) fun a S' H' => ∀ b, mO c H S' H' b a → Q b H') (e : Ex S H) (n : H q = none) (h : RpO c.K c.cm S o d) : Q (.ref q) (upd H q o) :=
  p _ _ (Fwd.heap e n) _ ⟨q, o, rfl, n, e.nn n, upd_same, h⟩
end
/-- .. or so as soon as a told object is locked -/
def Lo (Q : Hp → Prop) (H : Hp) : Prop := Q H ∨ ∃ p u, H p = some u ∧ Mut (some u) ∧ ∀ w, Q (upd H p (.frz w u))
theorem Fwd.pubF {S H S' H' : Hp} {p : Addr} {o : HO} (f : Fwd S H S' H') (n : H p = none) (ns : S' p = none) : Fwd S H (upd S' p o) (upd H' p o) :=
  ⟨f.s.trans (Ex.new ns), f.h.put n, f.sub.both, fun a u ha m => by
    by_cases hh : a = p
    · subst hh; exact .inl n
    · rw [upd_ne hh] at ha; exact f.new a u ha m⟩
section
variable {X : Cx}
theorem pe_lock {e : Expr} {t t2 : TE} (h : PE X e t) (k : ∀ σ H Q, t2 σ H Q → t σ H fun v H' => Lo (Q v) H') : PE X e t2 := ⟨fun pins s σ H Q I q => thn (h.run pins s σ H _ I (k _ _ _ q)) fun u s' ⟨v, H', I', r, z⟩ => by
  rcases z with z | ⟨p, ho, h1, h2, z⟩
  · exact ⟨v, H', I', r, z⟩
  · obtain ⟨od, I2⟩ := I'.lock h1 h2
    exact ⟨v, _, I2, r, z od⟩⟩
theorem pss_lock {st : List Stmt} {t t2 : TS} (h : PSs X st t) (k : ∀ E σ H, t2 E σ H → Lo (fun H => t E σ H) H) : PSs X st t2 := ⟨fun pins s σ H E I q => by
  rcases k _ _ _ q with z | ⟨p, ho, h1, h2, z⟩
  · exact h.run pins s σ H E I z
  · obtain ⟨od, I2⟩ := I.lock h1 h2
    exact h.run pins s σ _ E I2 (z od)⟩
end
section
variable {X : Cx} {c : Cf} {G : List Ow} {f f1 f2 : Rho → Res D} {a b e : Expr} {pos : Pos}
theorem de_pub (h : PE X e (tO c G f)) : PE X e (tV c G f) := pe_lock h fun σ H Q ⟨S0, H0, S, r, ok, p⟩ => ⟨S0, H0, S, r, ok, by
  revert p
  cases f r with
  | ok d =>
    intro p S' H' fw b hb
    obtain ⟨q, ho, rfl, h1, h2, h3, h4⟩ := hb
    cases hd : isDct d with
    | false =>
      have fw' := fw.pub h1 h2 h3
      exact .inl (p _ H' fw' _ ((h4.mono (Ex.new h2)).pub hd upd_same))
    | true => exact .inr ⟨q, ho, h3, h4.mut, fun w => p _ _ (fw.pubF h1 h2) _ ((h4.mono (Ex.new h2)).pubD hd upd_same).1⟩
  | err n ns vs => exact id
  | bad => exact id⟩
theorem db_of (h : PE X e (tV c G f)) : PE X e (tR c G f) := pe_imp h fun σ H Q ⟨S0, H0, S, r, ok, p⟩ => ⟨S0, H0, S, r, ok, p.imp fun _ _ _ _ hk b hb => hk b (.inl hb)⟩
theorem db_own (h : PE X e (tO c G f)) : PE X e (tR c G f) := db_of (de_pub h)
def dVar (i : Nat) : Rho → Res D := fun r => match r[i]? with
  | some (some d) => .ok d
  | _ => .bad
def dC (d : D) : Rho → Res D := fun _ => .ok d
theorem of_dVar {σ : St} {S H : Hp} {i : Nat} {r : Rho} {k : D → Hp → Hp → Prop} (p : PostG c σ S H (dVar i r) k) : ∃ d, r[i]? = some (some d) ∧ PostG c σ S H (.ok d) k := by
  unfold dVar at p
  split at p
  · exact ⟨_, by assumption, p⟩
  · exact p.elim
theorem de_var (i : Nat) {x : Str} (h : PE X (.Name x pos) (tVar i)) (k : kd G i = .v) : PE X (.Name x pos) (tV c G (dVar i)) := pe_imp h fun σ H Q ⟨S0, H0, S, r, ok, p⟩ => by
  obtain ⟨d, hd, p⟩ := of_dVar p
  obtain ⟨v, h1, h2⟩ := ok.slot i d hd
  rw [k] at h2
  exact ⟨v, h1, p.here ok.ex h2⟩
theorem db_var (i : Nat) {x : Str} (h : PE X (.Name x pos) (tVar i)) (k : kd G i = .v ∨ isO (kd G i) ∨ kd G i = .b) : PE X (.Name x pos) (tR c G (dVar i)) := pe_imp h fun σ H Q ⟨S0, H0, S, r, ok, p⟩ => by
  obtain ⟨d, hd, p⟩ := of_dVar p
  obtain ⟨v, h1, h2⟩ := ok.slot i d hd
  refine ⟨v, h1, p.here ok.ex ?_⟩
  rcases k with k | k | k
  · rw [k] at h2; exact .inl h2
  · obtain ⟨q, ho, z1, z2, z3, z4, z5⟩ := h2.o_of k
    exact .inr ⟨q, ho, z1, z2, z5⟩
  · rw [k] at h2
    exact RpB.mono h2 Ex.refl ok.fwd.h
theorem de_c {v : V} {d : D} (h : PE X e (tC v)) (hd : ∀ S, Rp c.K c.cm S v d) : PE X e (tV c G (dC d)) := pe_imp h fun σ H Q ⟨S0, H0, S, r, ok, p⟩ => p.here ok.ex (hd S)
theorem de_int {i : Int} {j : Nat} : PE X (.Constant (.int i) j pos) (tV c G (dC (.int i))) := de_c pe_int fun _ => .int i
theorem de_bl {b : Bool} {j : Nat} : PE X (.Constant (.bool b) j pos) (tV c G (dC (.bl b))) := de_c pe_bl fun _ => .bl b
theorem de_non {j : Nat} : PE X (.Constant .none j pos) (tV c G (dC .non)) := de_c pe_non fun _ => .non
theorem de_str {x : Str} {j : Nat} : PE X (.Constant (.str x) j pos) (tV c G (dC (.str x))) := de_c pe_str fun _ => .str x
def dOp (g : D → D → Res D) (f1 f2 : Rho → Res D) : Rho → Res D := fun r => (f1 r).bind fun x => (f2 r).bind fun y => g x y
def OpS (c : Cf) (R : Md V D) (r2 : R2) (g : D → D → Res D) : Prop := ∀ (σ : St) (S H : Hp) (x y : V) (d e : D) (Q : VK), Ex S H → RpB c.K c.cm S H x d → RpB c.K c.cm S H y e →
  PostG c σ S H (g d e) (fun a S' H' => ∀ b, R H S' H' b a → Q b H') → r2 x y H Q
theorem op_rd {R : Md V D} [Anti R] {r2 : R2} {g : D → D → Res D} (hs : OpS c R r2 g) : ∀ σ H Q, rd c G (dOp g f1 f2) R σ H Q → tOp r2 (tR c G f1) (tR c G f2) σ H Q := fun σ H Q ⟨S0, H0, S, r, ok, p⟩ =>
  rd_seq ok p fun x v S1 H1 w1 o1 m1 p1 => rd_seq o1 p1 fun y u S2 H2 w2 o2 m2 p2 => hs σ S2 H2 v u x y Q o2.ex (RpB.mono m1 w2.s w2.h) m2 (p2.anti (w1.h.trans w2.h))
theorem de_op {R : Md V D} [Anti R] {op : Operator} {r2 : R2} {g : D → D → Res D} (ho : OpR X (binaryOp op) r2) (hs : OpS c R r2 g) (ha : PE X a (tR c G f1)) (hb : PE X b (tR c G f2)) : PE X (.BinOp a op b pos) (rd c G (dOp g f1 f2) R) :=
  pe_imp (pe_op ho ha hb) (op_rd hs)
theorem de_cmp {R : Md V D} [Anti R] {op : CmpOp} {r2 : R2} {g : D → D → Res D} (ho : OpR X (compareOp op) r2) (hs : OpS c R r2 g) (ha : PE X a (tR c G f1)) (hb : PE X b (tR c G f2)) (hm : behindInMarks op b = false) :
    PE X (.Compare a [op] [b] pos) (rd c G (dOp g f1 f2) R) := pe_imp (pe_cmpR ho ha hb hm) (op_rd hs)
/-- a truth value as a test -/
def asB : D → Res Bool
  | .bl b => .ok b
  | _ => .bad
def dT (f : Rho → Res D) : Rho → Res Bool := fun r => (f r).bind asB
theorem of_asB {σ : St} {S H : Hp} {d : D} {k : Bool → Hp → Hp → Prop} (p : PostG c σ S H (asB d) k) : ∃ b, d = .bl b ∧ PostG c σ S H (.ok b) k := by
  cases d with
  | bl b => exact ⟨b, rfl, p⟩
  | _ => exact p.elim
theorem dt_cmp {op : CmpOp} {r2 : R2} {g : D → D → Res D} (ho : OpR X (compareOp op) r2) (hs : OpS c (mV c) r2 g) (ha : PE X a (tR c G f1)) (hb : PE X b (tR c G f2)) (hm : behindInMarks op b = false) :
    PT X (.Compare a [op] [b] pos) (tT c G (dT (dOp g f1 f2))) := pt_imp (pt_cmpR ho ha hb hm) fun σ H Q ⟨S0, H0, S, r, ok, p⟩ => by
  refine op_rd (G := G) (f1 := f1) (f2 := f2) hs σ H _ (rd_seq ok p fun d v S1 H1 w1 o1 m1 p1 => ?_)
  obtain ⟨b, rfl, p1⟩ := of_asB p1
  cases m1
  exact ⟨b, rfl, p1.go o1.ex _ rfl⟩
/-- an expression whose value is True or False, as a test -/
theorem dt_val (h : PE X e (tV c G f)) (he : ∀ whole, isTrue e X.env whole = (do let v ← whole; standAt e.pos; holding [v] (truthy v)) := by intro _; rfl) : PT X e (tT c G (dT f)) :=
  pt_imp (pt_val h he) fun σ H Q ⟨S0, H0, S, r, ok, p⟩ => rd_seq ok p fun d v S1 H1 w1 o1 m1 p1 => by
    obtain ⟨b, rfl, p1⟩ := of_asB p1
    cases m1
    exact ⟨b, rfl, p1.go o1.ex _ rfl⟩
variable {t1 t2 : Rho → Res Bool} {rest : List Expr}
def dAnd (t u : Rho → Res Bool) : Rho → Res Bool := fun r => (t r).bind fun b => if b = true then u r else .ok false
def dOr (t u : Rho → Res Bool) : Rho → Res Bool := fun r => (t r).bind fun b => if b = true then .ok true else u r
def dNot (t : Rho → Res Bool) : Rho → Res Bool := fun r => (t r).bind fun b => .ok (!b)
def dIf {α : Type} (t : Rho → Res Bool) (f g : Rho → Res α) : Rho → Res α := fun r => (t r).bind fun b => if b = true then f r else g r
theorem pw_imp {t t' : TT} (h : PW X e t) (k : ∀ σ H Q, t' σ H Q → t σ H Q) : PW X e t' := ⟨fun w pins s σ H Q I q => h.run w pins s σ H Q I (k σ H Q q)⟩
theorem dw_and1 (ha : PT X a (tT c G t1)) : PW X (.BoolOp .And [a] pos) (tT c G t1) := pw_and1 ha
theorem dw_or1 (ha : PT X a (tT c G t1)) : PW X (.BoolOp .Or [a] pos) (tT c G t1) := pw_or1 ha
theorem dw_and (ha : PT X a (tT c G t1)) (hb : PW X (.BoolOp .And (b :: rest) pos) (tT c G t2)) : PW X (.BoolOp .And (a :: b :: rest) pos) (tT c G (dAnd t1 t2)) := pw_imp (pw_and ha hb) fun σ H Q ⟨S0, H0, S, r, ok, p⟩ =>
  rd_seq ok p fun x v S1 H1 w1 o1 m1 p1 => by
    rw [show v = x from m1]
    cases x with
    | true => exact ⟨S0, H0, S1, r, o1, p1⟩
    | false => exact p1.go o1.ex _ rfl
theorem dw_or (ha : PT X a (tT c G t1)) (hb : PW X (.BoolOp .Or (b :: rest) pos) (tT c G t2)) : PW X (.BoolOp .Or (a :: b :: rest) pos) (tT c G (dOr t1 t2)) := pw_imp (pw_or ha hb) fun σ H Q ⟨S0, H0, S, r, ok, p⟩ =>
  rd_seq ok p fun x v S1 H1 w1 o1 m1 p1 => by
    rw [show v = x from m1]
    cases x with
    | true => exact p1.go o1.ex _ rfl
    | false => exact ⟨S0, H0, S1, r, o1, p1⟩
theorem dt_not (ha : PT X a (tT c G t1)) : PT X (.UnaryOp .Not a pos) (tT c G (dNot t1)) := pt_imp (pt_not ha) fun σ H Q ⟨S0, H0, S, r, ok, p⟩ =>
  rd_seq ok p fun x v S1 H1 w1 o1 m1 p1 => by
    rw [show v = x from m1]
    exact p1.go o1.ex _ rfl
/-- and, or, not as values: all True or False -/
def dAndV (f g : Rho → Res D) : Rho → Res D := fun r => (f r).bind fun x => (asB x).bind fun b => if b = true then g r else .ok (.bl false)
def dOrV (f g : Rho → Res D) : Rho → Res D := fun r => (f r).bind fun x => (asB x).bind fun b => if b = true then .ok (.bl true) else g r
def dNotV (f : Rho → Res D) : Rho → Res D := fun r => (f r).bind fun x => (asB x).bind fun b => .ok (.bl (!b))
end
end Dx
end S_DxB
section S_DxC
set_option Elab.async false
set_option linter.all false
set_option maxRecDepth 100000
set_option maxHeartbeats 2000000
namespace Dx
open PySem L2
mutual
def toPy : D → Option PyData
  | .non => some .none
  | .bl b => some (.bool b)
  | .int i => some (.int i)
  | .str s => some (.str s)
  | .lst ds => (toPyL ds).map .list
  | .fz ds => (toPyL ds).map .list
  | .tup ds => (toPyL ds).map .tuple
  | .kt ds => (toPyL ds).map .tuple
  | .dk _ _ => none
  | .dt _ _ => none
  | .obj _ _ _ => none
  | .own _ => none
  | .st _ _ => none
def toPyL : List D → Option (List PyData)
  | [] => some []
  | d :: ds => match toPy d, toPyL ds with
    | some p, some ps => some (p :: ps)
    | _, _ => none
end
section
variable {K : PySem.W.Frag} {cm : CM} {S H : Hp}
mutual
theorem Rp.dp (e : Ex S H) : ∀ {v : V} {d : D} {p : PyData}, Rp K cm S v d → toPy d = some p → Dp K H v p
  | _, .non, _, h, q => by cases h; cases q; exact .non
  | _, .bl _, _, h, q => by cases h; cases q; exact .bl _
  | _, .int _, _, h, q => by cases h; cases q; exact .int _
  | _, .str _, _, h, q => by cases h; cases q; exact .str _
  | _, .lst ds, _, h, q => by
    cases h with | lst a r =>
    rw [toPy] at q
    obtain ⟨ps, h1, rfl⟩ := Option.map_eq_some_iff.mp q
    exact .lst (.inl (.inl (e _ _ a))) (RpA.dp e r h1)
  | _, .fz ds, _, h, q => by
    cases h with | fz a r =>
    rw [toPy] at q
    obtain ⟨ps, h1, rfl⟩ := Option.map_eq_some_iff.mp q
    exact .lst (e.l a) (RpA.dp e r h1)
  | _, .tup ds, _, h, q => by
    cases h with | tup a r =>
    rw [toPy] at q
    obtain ⟨ps, h1, rfl⟩ := Option.map_eq_some_iff.mp q
    exact .tup (.inl (.inl (e _ _ a))) (RpA.dp e r h1)
  | _, .kt ds, _, h, q => by
    cases h with | kt a r =>
    rw [toPy] at q
    obtain ⟨ps, h1, rfl⟩ := Option.map_eq_some_iff.mp q
    exact .tup (e.t a) (RpA.dp e r h1)
  | _, .dk _ _, _, h, q => by cases q
  | _, .dt _ _, _, h, q => by cases q
  | _, .obj _ _ _, _, h, q => by cases q
theorem RpA.dp (e : Ex S H) : ∀ {vs : List V} {ds : List D} {ps : List PyData}, RpA K cm S vs ds → toPyL ds = some ps → DpAll K H vs ps
  | _, [], _, h, q => by cases h; cases q; exact .nil
  | _, d :: ds, _, h, q => by
    cases h with | cons a r =>
    rw [toPyL] at q
    cases h1 : toPy d with
    | none => rw [h1] at q; cases q
    | some p =>
      cases h2 : toPyL ds with
      | none => rw [h1, h2] at q; cases q
      | some ps =>
        rw [h1, h2] at q
        cases q
        exact .cons (Rp.dp e a h1) (RpA.dp e r h2)
end
theorem RpB.dp {v : V} {d : D} {p : PyData} (e : Ex S H) (h : RpB K cm S H v d) (q : toPy d = some p) : Dp K H v p := by
  rcases h with h | ⟨a, ho, rfl, h2, h3⟩
  · exact h.dp e q
  · cases h3 with
    | lst r =>
      rw [toPy] at q
      obtain ⟨ps, h1, rfl⟩ := Option.map_eq_some_iff.mp q
      exact .lst (.inl (.inl h2)) (r.dp e h1)
    | dk _ _ => cases q
    | dt _ _ => cases q
    | obj _ _ _ => cases q
end
noncomputable def addD : D → D → Res D
  | .int i, .int j => .ok (.int (i + j))
  | .str a, .str b => guard (a.length + b.length ≤ sizeLine) (.ok (.str (a ++ b)))
  | .tup a, .tup b => guard (a.length + b.length ≤ sizeLine) (.ok (.tup (a ++ b)))
  | .lst a, .lst b => guard (a.length + b.length ≤ sizeLine) (.ok (.lst (a ++ b)))
  | _, _ => .bad
def rAddX (K : PySem.W.Frag) : R2 := fun x y H Q => (rI0 (fun i j => .int (i + j))) x y H Q ∨ (∃ i j, x = .str i ∧ y = .str j ∧ i.length + j.length ≤ sizeLine ∧ Q (.str (i ++ j)) H) ∨ rCatA K x y H Q ∨ rCat x y H Q
section
variable {X : Cx} {c : Cf}
theorem or_add : OpR X (binaryOp .Add) (rAddX X.K) := op_add.or (op_add_str.or (op_catA.or op_cat))
theorem PostG.ite {σ : St} {S H : Hp} {α : Type} {p : Prop} [Decidable p] {x : Res α} {k : α → Hp → Hp → Prop} (h : PostG c σ S H (if p then x else .bad) k) : p ∧ PostG c σ S H x k := by
  by_cases hp : p
  · rw [if_pos hp] at h; exact ⟨hp, h⟩
  · rw [if_neg hp] at h; exact h.elim
theorem os_add : OpS c (mV c) (rAddX c.K) addD := by
  intro σ S H x y d e Q ex hx hy p
  unfold addD at p
  split at p
  · cases hx.int; cases hy.int
    exact .inl ⟨_, _, rfl, rfl, p.here ex (.int _)⟩
  · cases hx.str; cases hy.str
    obtain ⟨hl, p⟩ := p.gd
    exact .inr (.inl ⟨_, _, rfl, rfl, hl, p.here ex (.str _)⟩)
  · obtain ⟨q1, xs, rfl, a1, r1, s1⟩ := hx.tup ex
    obtain ⟨q2, ys, rfl, a2, r2, s2⟩ := hy.tup ex
    obtain ⟨hl, p⟩ := p.gd
    refine .inr (.inr (.inl ⟨_, _, xs, ys, rfl, rfl, a1, a2, by rw [r1.length, r2.length]; exact hl, fun h => ?_, fun _ h => ?_, fun _ _ q hq => ?_⟩))
    · subst h; cases r1; exact p.here ex (.tup s2 r2)
    · subst h; cases r2; rw [List.append_nil] at p; exact p.here ex (.tup s1 r1)
    · exact p.laid ex hq (.tup upd_same ((r1.app r2).mono (Ex.new (ex.nn hq))))
  · obtain ⟨q1, xs, rfl, a1, r1⟩ := hx.list ex
    obtain ⟨q2, ys, rfl, a2, r2⟩ := hy.list ex
    obtain ⟨hl, p⟩ := p.gd
    refine .inr (.inr (.inr ⟨_, _, xs, ys, rfl, rfl, a1, a2, by rw [r1.length, r2.length]; exact hl, fun q hq => ?_⟩))
    exact p.laid ex hq (.lst upd_same ((r1.app r2).mono (Ex.new (ex.nn hq))))
  · exact p.elim
/-- list + list, the new list one's own -/
noncomputable def addL : D → D → Res D
  | .lst a, .lst b => guard (a.length + b.length ≤ sizeLine) (.ok (.lst (a ++ b)))
  | _, _ => .bad
def subD : D → D → Res D
  | .int i, .int j => .ok (.int (i - j))
  | _, _ => .bad
theorem os_sub : OpS c (mV c) (rI0 fun i j => .int (i - j)) subD := by
  intro σ S H x y d e Q ex hx hy p
  unfold subD at p
  split at p
  · cases hx.int; cases hy.int
    exact ⟨_, _, rfl, rfl, p.here ex (.int _)⟩
  · exact p.elim
def smallI (i : Int) : Prop := -(2 ^ 64) < i ∧ i < 2 ^ 64
theorem RpA.rep {K : PySem.W.Frag} {cm : CM} {S : Hp} {vs : List V} {ds : List D} (h : RpA K cm S vs ds) : ∀ n : Nat, RpA K cm S (List.replicate n vs).flatten (List.replicate n ds).flatten
  | 0 => .nil
  | n + 1 => by rw [List.replicate_succ, List.replicate_succ, List.flatten_cons, List.flatten_cons]; exact h.app (RpA.rep h n)
noncomputable def mulD : D → D → Res D
  | .int i, .int j => guard (smallI i ∨ smallI j) (.ok (.int (i * j)))
  | .lst a, .int k => guard (0 ≤ k ∧ k < 2 ^ 60 ∧ a.length * k.toNat ≤ sizeLine) (.ok (.lst (List.replicate k.toNat a).flatten))
  | _, _ => .bad
def rMulX : R2 := fun x y H Q => (rI CMul (fun i j => .int (i * j))) x y H Q ∨ rRep x y H Q
theorem or_mul : OpR X (binaryOp .Mult) rMulX := op_mul.or op_rep
theorem os_mul : OpS c (mV c) rMulX mulD := by
  intro σ S H x y d e Q ex hx hy p
  unfold mulD at p
  split at p
  · cases hx.int; cases hy.int
    obtain ⟨hl, p⟩ := p.gd
    exact .inl ⟨_, _, rfl, rfl, hl, p.here ex (.int _)⟩
  · obtain ⟨q1, xs, rfl, a1, r1⟩ := hx.list ex
    cases hy.int
    obtain ⟨⟨h0, h1, h2⟩, p⟩ := p.gd
    refine .inr ⟨_, _, xs, rfl, rfl, a1, by omega, by omega, by rw [r1.length]; exact h2, fun q hq => ?_⟩
    exact p.laid ex hq (.lst upd_same ((r1.rep _).mono (Ex.new (ex.nn hq))))
  · exact p.elim
noncomputable def fdivD : D → D → Res D
  | .int i, .int j => if 0 < j then guard (j < 4611686018427387904) (.ok (.int (i / j))) else guard (j ≠ 0 ∧ j.natAbs < 1073741824) (.ok (.int (i.fdiv j)))
  | _, _ => .bad
def rFdivX : R2 := fun x y H Q => (rI CDivW (fun i j => .int (i / j))) x y H Q ∨ (rI CDivN (fun i j => .int (i.fdiv j))) x y H Q
theorem or_fdiv : OpR X (binaryOp .FloorDiv) rFdivX := op_fdivW.or op_fdivN
theorem os_fdiv : OpS c (mV c) rFdivX fdivD := by
  intro σ S H x y d e Q ex hx hy p
  unfold fdivD at p
  split at p
  · cases hx.int; cases hy.int
    split at p
    · rename_i h
      obtain ⟨h2, p⟩ := p.gd
      exact .inl ⟨_, _, rfl, rfl, wide_div (b := 62) h (by omega) (by decide) (by decide), p.here ex (.int _)⟩
    · obtain ⟨h, p⟩ := p.gd
      exact .inr ⟨_, _, rfl, rfl, h, p.here ex (.int _)⟩
  · exact p.elim
noncomputable def modD : D → D → Res D
  | .int i, .int j => guard (0 < j) (.ok (.int (i % j)))
  | _, _ => .bad
theorem os_mod : OpS c (mV c) (rI (fun _ j => 0 < j) fun i j => .int (i % j)) modD := by
  intro σ S H x y d e Q ex hx hy p
  unfold modD at p
  split at p
  · cases hx.int; cases hy.int
    obtain ⟨h, p⟩ := p.gd
    exact ⟨_, _, rfl, rfl, h, p.here ex (.int _)⟩
  · exact p.elim
def intsD (g : Int → Int → Int) : D → D → Res D
  | .int i, .int j => .ok (.int (g i j))
  | _, _ => .bad
def eqFlat : D → D → Option Bool
  | .int i, .int j => some (decide (i = j))
  | .str a, .str b => some (decide (a = b))
  | .bl a, .bl b => some (decide (a = b))
  | .non, .non => some true
  | .non, .int _ => some false
  | .non, .bl _ => some false
  | .non, .str _ => some false
  | .int _, .non => some false
  | .bl _, .non => some false
  | .str _, .non => some false
  | .int _, .str _ => some false
  | .str _, .int _ => some false
  | .bl _, .str _ => some false
  | .str _, .bl _ => some false
  | _, _ => none
def eqDeep (d e : D) : Res Bool := match toPy d, toPy e with
  | some p, some q => if SeqAt.shaped p = true ∧ SeqAt.shaped q = true then .ok (PyData.eqv p q) else .bad
  | _, _ => .bad
def eqB (d e : D) : Res Bool := match eqFlat d e with
  | some b => .ok b
  | none => eqDeep d e
def eqD (d e : D) : Res D := (eqB d e).bind fun b => .ok (.bl b)
def neD (d e : D) : Res D := (eqB d e).bind fun b => .ok (.bl (!b))
theorem of_eqDeep {σ : St} {S H : Hp} {x y : V} {d e : D} {g : Bool → Res D} {k : D → Hp → Hp → Prop} (ex : Ex S H) (hx : RpB c.K c.cm S H x d) (hy : RpB c.K c.cm S H y e) (p : PostG c σ S H ((eqDeep d e).bind g) k) :
    ∃ u v, Dp c.K H x u ∧ Dp c.K H y v ∧ SeqAt.shaped u = true ∧ SeqAt.shaped v = true ∧ PostG c σ S H (g (PyData.eqv u v)) k := by
  unfold eqDeep at p
  split at p
  · rename_i u v h1 h2
    by_cases hs : SeqAt.shaped u = true ∧ SeqAt.shaped v = true
    · rw [if_pos hs] at p
      exact ⟨u, v, hx.dp ex h1, hy.dp ex h2, hs.1, hs.2, p⟩
    · rw [if_neg hs] at p
      exact p.elim
  · exact p.elim
theorem of_eqFlat {S H : Hp} {x y : V} {d e : D} {b : Bool} (hx : RpB c.K c.cm S H x d) (hy : RpB c.K c.cm S H y e) (h : eqFlat d e = some b) : scal x y = true ∧ decide (x = y) = b := by
  unfold eqFlat at h
  split at h
  · cases hx.int; cases hy.int; cases h; exact ⟨rfl, by simp⟩
  · cases hx.str; cases hy.str; cases h; exact ⟨rfl, by simp⟩
  · cases hx.bl; cases hy.bl; cases h; exact ⟨rfl, by simp⟩
  · cases hx.non; cases hy.non; cases h; exact ⟨rfl, rfl⟩
  · cases hx.non; cases hy.int; cases h; exact ⟨rfl, rfl⟩
  · cases hx.non; cases hy.bl; cases h; exact ⟨rfl, rfl⟩
  · cases hx.non; cases hy.str; cases h; exact ⟨rfl, rfl⟩
  · cases hx.int; cases hy.non; cases h; exact ⟨rfl, rfl⟩
  · cases hx.bl; cases hy.non; cases h; exact ⟨rfl, rfl⟩
  · cases hx.str; cases hy.non; cases h; exact ⟨rfl, rfl⟩
  · cases hx.int; cases hy.str; cases h; exact ⟨rfl, rfl⟩
  · cases hx.str; cases hy.int; cases h; exact ⟨rfl, rfl⟩
  · cases hx.bl; cases hy.str; cases h; exact ⟨rfl, rfl⟩
  · cases hx.str; cases hy.bl; cases h; exact ⟨rfl, rfl⟩
  · cases h
def rEqX (K : PySem.W.Frag) : R2 := fun x y H Q => rEq x y H Q ∨ rEqD K x y H Q
def rNeX (K : PySem.W.Frag) : R2 := fun x y H Q => rNe x y H Q ∨ rNeD K x y H Q
theorem or_eq (hu : X.A.units + 64 < cLine) : OpR X (compareOp .Eq) (rEqX X.K) := op_eq.or (op_eqD hu)
theorem or_ne (hu : X.A.units + 64 < cLine) : OpR X (compareOp .NotEq) (rNeX X.K) := op_ne.or (op_neD hu)
theorem os_eq : OpS c (mV c) (rEqX c.K) eqD := by
  intro σ S H x y d e Q ex hx hy p
  unfold eqD eqB at p
  split at p
  · rename_i b hb
    obtain ⟨h1, h2⟩ := of_eqFlat hx hy hb
    refine .inl ⟨h1, ?_⟩
    rw [h2]; exact p.here ex (.bl _)
  · obtain ⟨u, v, h1, h2, h3, h4, p⟩ := of_eqDeep ex hx hy p
    exact .inr ⟨u, v, h1, h2, h3, h4, p.here ex (.bl _)⟩
theorem os_ne : OpS c (mV c) (rNeX c.K) neD := by
  intro σ S H x y d e Q ex hx hy p
  unfold neD eqB at p
  split at p
  · rename_i b hb
    obtain ⟨h1, h2⟩ := of_eqFlat hx hy hb
    refine .inl ⟨h1, ?_⟩
    rw [h2]; exact p.here ex (.bl _)
  · obtain ⟨u, v, h1, h2, h3, h4, p⟩ := of_eqDeep ex hx hy p
    exact .inr ⟨u, v, h1, h2, h3, h4, p.here ex (.bl _)⟩
/-- by ints, by texts -/
def ordD (g : Int → Int → Bool) (h : Str → Str → Bool) : D → D → Res D
  | .int i, .int j => .ok (.bl (g i j))
  | .str a, .str b => .ok (.bl (h a b))
  | _, _ => .bad
def rOrd (g : Int → Int → Bool) (h : Str → Str → Bool) : R2 := fun x y H Q => (rI0 fun i j => .bl (g i j)) x y H Q ∨ ∃ i j, x = .str i ∧ y = .str j ∧ Q (.bl (h i j)) H
theorem os_ord {g : Int → Int → Bool} {h : Str → Str → Bool} : OpS c (mV c) (rOrd g h) (ordD g h) := by
  intro σ S H x y d e Q ex hx hy p
  unfold ordD at p
  split at p
  · cases hx.int; cases hy.int
    exact .inl ⟨_, _, rfl, rfl, p.here ex (.bl _)⟩
  · cases hx.str; cases hy.str
    exact .inr ⟨_, _, rfl, rfl, p.here ex (.bl _)⟩
  · exact p.elim
abbrev ltD : D → D → Res D := ordD (fun i j => decide (i < j)) fun i j => decide (i.cps.toList < j.cps.toList)
abbrev leD : D → D → Res D := ordD (fun i j => decide (i ≤ j)) fun i j => !decide (j.cps.toList < i.cps.toList)
abbrev gtD : D → D → Res D := ordD (fun i j => decide (j < i)) fun i j => decide (j.cps.toList < i.cps.toList)
abbrev geD : D → D → Res D := ordD (fun i j => decide (j ≤ i)) fun i j => !decide (i.cps.toList < j.cps.toList)
theorem or_lt : OpR X (compareOp .Lt) (rOrd (fun i j => decide (i < j)) fun i j => decide (i.cps.toList < j.cps.toList)) := op_lt.or op_lt_str
theorem or_le : OpR X (compareOp .LtE) (rOrd (fun i j => decide (i ≤ j)) fun i j => !decide (j.cps.toList < i.cps.toList)) := op_le.or op_le_str
theorem or_gt : OpR X (compareOp .Gt) (rOrd (fun i j => decide (j < i)) fun i j => decide (j.cps.toList < i.cps.toList)) := op_gt.or op_gt_str
theorem or_ge : OpR X (compareOp .GtE) (rOrd (fun i j => decide (j ≤ i)) fun i j => !decide (i.cps.toList < j.cps.toList)) := op_ge.or op_ge_str
/-- is None, is not None -/
def isN : D → Bool
  | .non => true
  | _ => false
def isD (neg : Bool) (d e : D) : Res D := if isN e = true then .ok (.bl (if neg then !isN d else isN d)) else .bad
theorem RpB.isN {K : PySem.W.Frag} {cm : CM} {S H : Hp} {v : V} {d : D} (h : RpB K cm S H v d) : decide (v = .non) = isN d := by
  rcases h with h | ⟨p, ho, rfl, h2, h3⟩
  · cases h <;> rfl
  · cases h3 <;> rfl
theorem os_is : OpS c (mV c) (fun x y H Q => y = .non ∧ Q (.bl (decide (x = .non))) H) (isD false) := by
  intro σ S H x y d e Q ex hx hy p
  obtain ⟨h, p⟩ := p.ite
  rw [hx.isN]
  refine ⟨of_decide_eq_true (hy.isN.trans h), p.here ex (.bl _)⟩
/-- x in: a list of data, a text in a text, a flat thing in a tuple of flat things -/
def flatD : D → Option V
  | .non => some .non
  | .bl b => some (.bl b)
  | .int i => some (.int i)
  | .str s => some (.str s)
  | _ => none
def flatDs : List D → Option (List V)
  | [] => some []
  | d :: ds => match flatD d, flatDs ds with
    | some v, some vs => some (v :: vs)
    | _, _ => none
def inDeep (d : D) (ds : List D) : Res Bool := match toPy d, toPyL ds with
  | some p, some ps => if SeqAt.shaped p = true ∧ SeqAt.shaped (.list ps) = true then .ok (ps.any fun z => PyData.eqv z p) else .bad
  | _, _ => .bad
def inFlat (d : D) (ds : List D) : Option Bool := match flatD d, flatDs ds with
  | some v, some vs => some (inV v vs)
  | _, _ => none
def inLst (d : D) (ds : List D) : Res Bool := match inFlat d ds with
  | some b => .ok b
  | none => inDeep d ds
def inTup (d : D) (ds : List D) : Res Bool := match inFlat d ds with
  | some b => .ok b
  | none => .bad
def inStr (a b : Str) : Bool := match a.cps.toList with
  | [n] => decide (n ∈ b.cps.toList)
  | _ => !(Builtin.Str.occurrences b a 0 b.length 1).isEmpty
def inB : D → D → Res Bool
  | d, .lst ds => inLst d ds
  | d, .fz ds => inLst d ds
  | d, .tup ds => inTup d ds
  | .str a, .str b => .ok (inStr a b)
  | _, _ => .bad
def inD (d e : D) : Res D := (inB d e).bind fun b => .ok (.bl b)
def ninD (d e : D) : Res D := (inB d e).bind fun b => .ok (.bl (!b))
end
end Dx
end S_DxC
section S_DxD
set_option Elab.async false
set_option linter.all false
set_option maxRecDepth 100000
set_option maxHeartbeats 2000000
namespace Dx
open PySem L2
section
variable {X : Cx} {c : Cf} {G : List Ow} {f f1 f2 f3 : Rho → Res D} {a b e : Expr} {es : List Expr} {pos p : Pos} {fs : Rho → Res (List D)}
def dChain (g g' : D → D → Res D) (f1 f2 f3 : Rho → Res D) : Rho → Res D := fun r => (f1 r).bind fun x => (f2 r).bind fun y => (g x y).bind fun z => (asB z).bind fun k => if k = true then (f3 r).bind fun w => g' y w else .ok (.bl false)
theorem chain_rd {r2 r2' : R2} {g g' : D → D → Res D} (hs : OpS c (mV c) r2 g) (hs' : OpS c (mV c) r2' g') : ∀ σ H Q, tV c G (dChain g g' f1 f2 f3) σ H Q → tChain r2 r2' (tR c G f1) (tR c G f2) (tR c G f3) σ H Q := fun σ H Q ⟨S0, H0, S, r, ok, p⟩ =>
  rd_seq ok p fun x v S1 H1 w1 o1 m1 p1 => rd_seq o1 p1 fun y u S2 H2 w2 o2 m2 p2 => hs σ S2 H2 v u x y _ o2.ex (RpB.mono m1 w2.s w2.h) m2 (p2.unbind.imp fun z S3 H3 w3 p3 bz hz => by
    obtain ⟨k, rfl, q3⟩ := of_asB (PostG.imp p3.unbind fun _ _ _ _ h => h)
    cases hz
    refine ⟨k, rfl, ?_⟩
    have o3 := o2.go w3
    have p4 := q3.go o3.ex
    cases k with
    | true => exact rd_seq o3 p4 fun w u' S4 H4 w4 o4 m4 p5 => hs' σ S4 H4 u u' y w Q o4.ex (RpB.mono m2 (w3.s.trans w4.s) (w3.h.trans w4.h)) m4 p5
    | false => exact p4.go o3.ex _ (.bl _))
theorem dt_chain {op op' : CmpOp} {r2 r2' : R2} {g g' : D → D → Res D} {e3 : Expr} (ho : OpR X (compareOp op) r2) (hs : OpS c (mV c) r2 g) (ho' : OpR X (compareOp op') r2') (hs' : OpS c (mV c) r2' g') (ha : PE X a (tR c G f1)) (hb : PE X b (tR c G f2)) (hc : PE X e3 (tR c G f3))
    (hm : lastMarks [op, op'] [b, e3] = false := by with_unfolding_all rfl) : PT X (.Compare a [op, op'] [b, e3] pos) (tT c G (dT (dChain g g' f1 f2 f3))) := pt_imp (pt_chain ho ho' ha hb hc hm) fun σ H Q ⟨S0, H0, S, r, ok, p⟩ => by
  refine chain_rd (G := G) hs hs' σ H _ (rd_seq ok p fun d v S1 H1 w1 o1 m1 p1 => ?_)
  obtain ⟨b, rfl, p1⟩ := of_asB p1
  cases m1
  exact ⟨b, rfl, p1.go o1.ex _ rfl⟩
def negD : D → Res D
  | .int i => .ok (.int (-i))
  | _ => .bad
def dUn (g : D → Res D) (f : Rho → Res D) : Rho → Res D := fun r => (f r).bind g
theorem de_neg (ha : PE X a (tV c G f)) : PE X (.UnaryOp .USub a pos) (tV c G (dUn negD f)) := pe_imp (pe_un un_neg ha) fun σ H Q ⟨S0, H0, S, r, ok, p⟩ => rd_seq ok p fun d v S1 H1 w1 o1 m1 p1 => by
  cases d with
  | int i => cases m1; exact ⟨i, rfl, p1.go o1.ex _ (.int _)⟩
  | _ => exact p1.elim
theorem de_one {op : BoolOp} (h : PE X a (tV c G f)) : PE X (.BoolOp op [a] pos) (tV c G f) := pe_one h
theorem de_and {rest : List Expr} (ha : PE X a (tV c G f1)) (hb : PE X (.BoolOp .And (b :: rest) pos) (tV c G f2)) : PE X (.BoolOp .And (a :: b :: rest) pos) (tV c G (dAndV f1 f2)) := pe_imp (pe_and ha hb) fun σ H Q ⟨S0, H0, S, r, ok, p⟩ =>
  rd_seq ok p fun d v S1 H1 w1 o1 m1 p1 => by
    obtain ⟨k, rfl, q1⟩ := of_asB (p1.unbind)
    cases m1
    refine ⟨k, rfl, ?_⟩
    have p2 := q1.go o1.ex
    cases k with
    | true => exact ⟨S0, H0, S1, r, o1, p2⟩
    | false => exact p2.go o1.ex _ (.bl _)
theorem de_not (ha : PE X a (tV c G f)) : PE X (.UnaryOp .Not a pos) (tV c G (dNotV f)) := pe_imp (pe_not ha) fun σ H Q ⟨S0, H0, S, r, ok, p⟩ =>
  rd_seq ok p fun d v S1 H1 w1 o1 m1 p1 => by
    obtain ⟨k, rfl, q1⟩ := of_asB (p1.unbind)
    cases m1
    exact ⟨k, rfl, (q1.go o1.ex).go o1.ex _ (.bl _)⟩
def dNil : Rho → Res (List D) := fun _ => .ok []
def dCons (f : Rho → Res D) (g : Rho → Res (List D)) : Rho → Res (List D) := fun r => (f r).bind fun x => (g r).bind fun xs => .ok (x :: xs)
/-- with a mode for each: true, a thing that is only read -/
def RpM (c : Cf) (S H : Hp) : List Bool → List V → List D → Prop
  | [], [], [] => True
  | true :: ms, v :: vs, d :: ds => RpB c.K c.cm S H v d ∧ RpM c S H ms vs ds
  | false :: ms, v :: vs, d :: ds => Rp c.K c.cm S v d ∧ RpM c S H ms vs ds
  | _, _, _ => False
theorem RpM.mono {S H S' H' : Hp} (e : Ex S S') (e' : Ex H H') : ∀ {ms : List Bool} {vs : List V} {ds : List D}, RpM c S H ms vs ds → RpM c S' H' ms vs ds
  | [], [], [], _ => trivial
  | true :: ms, v :: vs, d :: ds, h => ⟨h.1.mono e e', RpM.mono e e' h.2⟩
  | false :: ms, v :: vs, d :: ds, h => ⟨h.1.mono e, RpM.mono e e' h.2⟩
  | [], _ :: _, _, h => h.elim
  | [], [], _ :: _, h => h.elim
  | true :: _, [], _, h => h.elim
  | true :: _, _ :: _, [], h => h.elim
  | false :: _, [], _, h => h.elim
  | false :: _, _ :: _, [], h => h.elim
def mM (c : Cf) (ms : List Bool) : Md (List V) (List D) := fun _ S' H' vs ds => RpM c S' H' ms vs ds
instance {ms : List Bool} : Anti (mM c ms) := ⟨fun _ h => h⟩
abbrev tM (c : Cf) (G : List Ow) (ms : List Bool) (f : Rho → Res (List D)) : TA := rd c G f (mM c ms)
theorem dm_nil : PA X [] (tM c G [] dNil) := pa_imp pa_nil fun σ H Q ⟨S0, H0, S, r, ok, p⟩ => p.go ok.ex _ trivial
theorem dm_bor {ms : List Bool} (ha : PE X e (tR c G f)) (hr : PA X es (tM c G ms fs)) (hs : starEach (e :: es) X.env = (false, eval e X.env) :: starEach es X.env := by rfl) : PA X (e :: es) (tM c G (true :: ms) (dCons f fs)) :=
  pa_imp (pa_cons ha hr hs) fun σ H Q ⟨S0, H0, S, r, ok, p⟩ => rd_seq ok p fun x v S1 H1 w1 o1 m1 p1 => rd_seq o1 p1 fun xs vs S2 H2 w2 o2 m2 p2 => p2.go o2.ex _ ⟨RpB.mono m1 w2.s w2.h, m2⟩
theorem dm_val {ms : List Bool} (ha : PE X e (tV c G f)) (hr : PA X es (tM c G ms fs)) (hs : starEach (e :: es) X.env = (false, eval e X.env) :: starEach es X.env := by rfl) : PA X (e :: es) (tM c G (false :: ms) (dCons f fs)) :=
  pa_imp (pa_cons ha hr hs) fun σ H Q ⟨S0, H0, S, r, ok, p⟩ => rd_seq ok p fun x v S1 H1 w1 o1 m1 p1 => rd_seq o1 p1 fun xs vs S2 H2 w2 o2 m2 p2 => p2.go o2.ex _ ⟨Rp.mono w2.s m1, m2⟩
theorem da_nil : PA X [] (tAs c G dNil) := pa_imp pa_nil fun σ H Q ⟨S0, H0, S, r, ok, p⟩ => p.go ok.ex _ .nil
theorem da_cons (ha : PE X e (tV c G f)) (hr : PA X es (tAs c G fs)) (hs : starEach (e :: es) X.env = (false, eval e X.env) :: starEach es X.env := by rfl) : PA X (e :: es) (tAs c G (dCons f fs)) :=
  pa_imp (pa_cons ha hr hs) fun σ H Q ⟨S0, H0, S, r, ok, p⟩ => rd_seq ok p fun x v S1 H1 w1 o1 m1 p1 => rd_seq o1 p1 fun xs vs S2 H2 w2 o2 m2 p2 => p2.go o2.ex _ (.cons (Rp.mono w2.s m1) m2)
noncomputable def mkTup (ds : List D) : Res D := guard (ds.length ≤ sizeLine) (.ok (.tup ds))
noncomputable def mkLst (ds : List D) : Res D := guard (ds.length ≤ sizeLine) (.ok (.lst ds))
noncomputable def dTup (g : Rho → Res (List D)) : Rho → Res D := fun r => (g r).bind mkTup
noncomputable def dLst (g : Rho → Res (List D)) : Rho → Res D := fun r => (g r).bind mkLst
theorem de_tup {k : Nat} (h : PA X es (tAs c G fs)) : PE X (.Tuple es k pos) (tV c G (dTup fs)) := pe_imp (pe_tup h) fun σ H Q ⟨S0, H0, S, r, ok, p⟩ => rd_seq ok p fun ds vs S1 H1 w1 o1 m1 p1 => by
  obtain ⟨hl, p1⟩ := p1.gd
  exact ⟨by rw [RpA.length m1]; exact hl, fun q hq => p1.laid o1.ex hq (.tup upd_same (RpA.mono (Ex.new (o1.ex.nn hq)) m1))⟩
theorem de_lst (h : PA X es (tAs c G fs)) : PE X (.List es pos) (tO c G (dLst fs)) := pe_imp (pe_lst h) fun σ H Q ⟨S0, H0, S, r, ok, p⟩ => rd_seq ok p fun ds vs S1 H1 w1 o1 m1 p1 => by
  obtain ⟨hl, p1⟩ := p1.gd
  exact ⟨by rw [RpA.length m1]; exact hl, fun q hq => (p1.anti w1.h).kept o1.ex hq (.lst m1)⟩
def CallS (c : Cf) (R : Md V D) (r : List V → Hp → VK → Prop) (ms : List Bool) (g : List D → Res D) : Prop := ∀ (σ : St) (S H : Hp) (vs : List V) (ds : List D) (Q : VK), Ex S H → RpM c S H ms vs ds →
  PostG c σ S H (g ds) (fun a S' H' => ∀ b, R H S' H' b a → Q b H') → r vs H Q
def dCall (g : List D → Res D) (fs : Rho → Res (List D)) : Rho → Res D := fun r => (fs r).bind g
theorem de_bltn {R : Md V D} [Anti R] {x : Str} {id : String} {ms : List Bool} {r : List V → Hp → VK → Prop} {g : List D → Res D} (hc : CallR X (.builtin id) r) (hs : CallS c R r ms g) (hg : Gl X x) (hm : X.mg x = none) (hv : bootBuiltins x = some (.builtin id)) (ha : PA X (e :: es) (tM c G ms fs))
    (hn : x ≠ "__name__" := by decide) (hdb : (x == ("__debug__" : Str)) = false := by decide) (he : starEach (e :: es) X.env = (false, eval e X.env) :: starEach es X.env := by rfl) (hpl : (backTo pos (starEach es X.env)).any (·.1) = false := by rfl) :
    PE X (.Call (.Name x p) (e :: es) [] pos) (rd c G (dCall g fs) R) := pe_imp (pe_callB hc hg hm hv ha hn hdb he hpl) fun σ H Q ⟨S0, H0, S, r, ok, p⟩ => rd_seq ok p fun ds vs S1 H1 w1 o1 m1 p1 => hs σ S1 H1 vs ds Q o1.ex m1 (p1.anti w1.h)
theorem de_type {R : Md V D} [Anti R] {x : Str} {T : String} {ms : List Bool} {r : List V → Hp → VK → Prop} {g : List D → Res D} (hc : CallR X (.type T) r) (hs : CallS c R r ms g) (hg : Gl X x) (hm : X.mg x = none) (hv : bootBuiltins x = some (.type T)) (ha : PA X (e :: es) (tM c G ms fs))
    (hn : x ≠ "__name__" := by decide) (hdb : (x == ("__debug__" : Str)) = false := by decide) (he : starEach (e :: es) X.env = (false, eval e X.env) :: starEach es X.env := by rfl) (hpl : (backTo pos (starEach es X.env)).any (·.1) = false := by rfl) :
    PE X (.Call (.Name x p) (e :: es) [] pos) (rd c G (dCall g fs) R) := pe_imp (pe_callTy hc hg hm hv ha hn hdb he hpl) fun σ H Q ⟨S0, H0, S, r, ok, p⟩ => rd_seq ok p fun ds vs S1 H1 w1 o1 m1 p1 => hs σ S1 H1 vs ds Q o1.ex m1 (p1.anti w1.h)
theorem RpM.one {S H : Hp} {vs : List V} {ds : List D} (h : RpM c S H [true] vs ds) : ∃ v d, vs = [v] ∧ ds = [d] ∧ RpB c.K c.cm S H v d := by
  match vs, ds, h with
  | [v], [d], h => exact ⟨v, d, rfl, rfl, h.1⟩
  | _ :: _ :: _, [_], h => exact h.2.elim
  | [_], _ :: _ :: _, h => exact h.2.elim
  | _ :: _ :: _, _ :: _ :: _, h => exact h.2.elim
  | [], _, h => exact h.elim
  | _ :: _, [], h => exact h.elim
theorem RpM.two {S H : Hp} {vs : List V} {ds : List D} (h : RpM c S H [true, true] vs ds) : ∃ v w d e, vs = [v, w] ∧ ds = [d, e] ∧ RpB c.K c.cm S H v d ∧ RpB c.K c.cm S H w e := by
  match vs, ds, h with
  | v :: vs, d :: ds, h =>
    obtain ⟨w, e, rfl, rfl, h2⟩ := RpM.one h.2
    exact ⟨v, w, d, e, rfl, rfl, h.1, h2⟩
  | [], _, h => exact h.elim
  | _ :: _, [], h => exact h.elim
/-- len -/
noncomputable def lenD : D → Res D
  | .str z => guard (z.length ≤ sizeLine) (.ok (.int z.length))
  | .lst ds => .ok (.int ds.length)
  | .fz ds => .ok (.int ds.length)
  | .tup ds => .ok (.int ds.length)
  | .kt ds => .ok (.int ds.length)
  | _ => .bad
def g1 (g : D → Res D) : List D → Res D
  | [d] => g d
  | _ => .bad
def g2 (g : D → D → Res D) : List D → Res D
  | [d, e] => g d e
  | _ => .bad
theorem cs_len : CallS c (mV c) (fun xs H Q => ∃ x n, xs = [x] ∧ LenV c.K x H n ∧ Q (.int n) H) [true] (g1 lenD) := by
  intro σ S H vs ds Q ex m p
  obtain ⟨v, d, rfl, rfl, h⟩ := m.one
  cases d with
  | str z =>
    obtain ⟨hl, p⟩ := p.gd
    cases h.str
    exact ⟨_, _, rfl, ⟨hl, rfl⟩, p.here ex (.int _)⟩
  | lst ds =>
    obtain ⟨q, xs, rfl, a1, r1⟩ := h.list ex
    exact ⟨_, _, rfl, .inl ⟨xs, .inl (.inl a1), r1.length.symm⟩, p.here ex (.int _)⟩
  | fz ds =>
    obtain ⟨q, xs, rfl, a1, r1⟩ := h.fz ex
    exact ⟨_, _, rfl, .inl ⟨xs, a1, r1.length.symm⟩, p.here ex (.int _)⟩
  | tup ds =>
    obtain ⟨q, xs, rfl, a1, r1, s1⟩ := h.tup ex
    exact ⟨_, _, rfl, .inr ⟨xs, a1, r1.length.symm⟩, p.here ex (.int _)⟩
  | kt ds =>
    obtain ⟨q, xs, rfl, a1, r1, s1⟩ := h.kt ex
    exact ⟨_, _, rfl, .inr ⟨xs, a1, r1.length.symm⟩, p.here ex (.int _)⟩
  | _ => exact p.elim
/-- int(..) -/
noncomputable def intD : D → Res D
  | .int i => .ok (.int i)
  | .bl k => .ok (.int (if k then 1 else 0))
  | .str a => match PySem.intText? a with
    | some n => guard (a.length ≤ 640) (.ok (.int n))
    | none => .bad
  | _ => .bad
def rIntX : List V → Hp → VK → Prop := fun xs H Q => ((∃ i, xs = [.int i] ∧ Q (.int i) H) ∨ ∃ k, xs = [.bl k] ∧ Q (.int (if k then 1 else 0)) H) ∨ ∃ a n, xs = [.str a] ∧ PySem.intText? a = some n ∧ a.length ≤ 640 ∧ Q (.int n) H
theorem cr_int : CallR X (.type "int") rIntX := call_int1.or call_int_str
theorem cs_int : CallS c (mV c) rIntX [true] (g1 intD) := by
  intro σ S H vs ds Q ex m p
  obtain ⟨v, d, rfl, rfl, h⟩ := m.one
  cases d with
  | int i => cases h.int; exact .inl (.inl ⟨_, rfl, p.here ex (.int _)⟩)
  | bl k => cases h.bl; exact .inl (.inr ⟨_, rfl, p.here ex (.int _)⟩)
  | str a =>
    cases h.str
    unfold g1 intD at p
    dsimp only at p
    split at p
    · rename_i n hn
      obtain ⟨hl, p⟩ := p.gd
      exact .inr ⟨_, n, rfl, hn, hl, p.here ex (.int _)⟩
    · exact p.elim
  | _ => exact p.elim
def absD : D → Res D
  | .int i => .ok (.int (if i < 0 then -i else i))
  | _ => .bad
theorem cs_ints2 {g : Int → Int → Int} : CallS c (mV c) (fun xs H Q => ∃ i j, xs = [.int i, .int j] ∧ Q (.int (g i j)) H) [true, true] (g2 (intsD g)) := by
  intro σ S H vs ds Q ex m p
  obtain ⟨v, w, d, e, rfl, rfl, h, h'⟩ := m.two
  unfold g2 intsD at p
  dsimp only at p
  split at p
  · cases h.int; cases h'.int; exact ⟨_, _, rfl, p.here ex (.int _)⟩
  · exact p.elim
abbrev max2 (i j : Int) : Int := if j > i then j else i
/-- list(..), tuple(..) -/
def itemsL : D → Res (List D)
  | .lst ds => .ok ds
  | .fz ds => .ok ds
  | _ => .bad
def itemsT : D → Res (List D)
  | .tup ds => .ok ds
  | _ => .bad
def items : D → Res (List D)
  | .lst ds => .ok ds
  | .fz ds => .ok ds
  | .tup ds => .ok ds
  | _ => .bad
def listD (d : D) : Res D := match d with
  | .kt ds => .ok (.lst ds)
  | d => (items d).bind fun ds => .ok (.lst ds)
theorem cs_list : CallS c (mO c) (fun xs H Q => ∃ p ys, xs = [.ref p] ∧ (SqL c.K H p ys ∨ SqT c.K H p ys) ∧ ∀ l, H l = none → Q (.ref l) (upd H l (.lst ys))) [true] (g1 listD) := by
  intro σ S H vs ds Q ex m p
  obtain ⟨v, d, rfl, rfl, h⟩ := m.one
  cases d with
  | lst ds =>
    obtain ⟨q, xs, rfl, a1, r1⟩ := h.list ex
    exact ⟨q, xs, rfl, .inl (.inl (.inl a1)), fun l hl => p.kept ex hl (.lst r1)⟩
  | fz ds =>
    obtain ⟨q, xs, rfl, a1, r1⟩ := h.fz ex
    exact ⟨q, xs, rfl, .inl a1, fun l hl => p.kept ex hl (.lst r1)⟩
  | tup ds =>
    obtain ⟨q, xs, rfl, a1, r1, s1⟩ := h.tup ex
    exact ⟨q, xs, rfl, .inr a1, fun l hl => p.kept ex hl (.lst r1)⟩
  | kt ds =>
    obtain ⟨q, xs, rfl, a1, r1, s1⟩ := h.kt ex
    exact ⟨q, xs, rfl, .inr a1, fun l hl => p.kept ex hl (.lst r1)⟩
  | _ => exact p.elim
def tupleD (d : D) : Res D := (items d).bind fun ds => .ok (.tup ds)
theorem cs_tuple : CallS c (mV c) (fun xs H Q => ∃ p ys, xs = [.ref p] ∧ ((SqL c.K H p ys ∧ ∀ l, H l = none → Q (.ref l) (upd H l (.tup ys))) ∨ (SqT c.K H p ys ∧ Q (.ref p) H))) [true] (g1 tupleD) := by
  intro σ S H vs ds Q ex m p
  obtain ⟨v, d, rfl, rfl, h⟩ := m.one
  cases d with
  | lst ds =>
    obtain ⟨q, xs, rfl, a1, r1⟩ := h.list ex
    exact ⟨q, xs, rfl, .inl ⟨.inl (.inl a1), fun l hl => p.laid ex hl (.tup upd_same (r1.mono (Ex.new (ex.nn hl))))⟩⟩
  | fz ds =>
    obtain ⟨q, xs, rfl, a1, r1⟩ := h.fz ex
    exact ⟨q, xs, rfl, .inl ⟨a1, fun l hl => p.laid ex hl (.tup upd_same (r1.mono (Ex.new (ex.nn hl))))⟩⟩
  | tup ds =>
    obtain ⟨q, xs, rfl, a1, r1, s1⟩ := h.tup ex
    exact ⟨q, xs, rfl, .inr ⟨a1, p.here ex (.tup s1 r1)⟩⟩
  | _ => exact p.elim
/-- str(n), str(text) is not here: see part T -/
noncomputable def strD : D → Res D
  | .int i => guard (i.natAbs.log2 < 1920) (.ok (.str (toString i)))
  | _ => .bad
def tyN : D → Option String
  | .non => some "NoneType"
  | .bl _ => some "bool"
  | .int _ => some "int"
  | .str _ => some "str"
  | .lst _ => some "list"
  | .fz _ => some "list"
  | .tup _ => some "tuple"
  | .kt _ => some "tuple"
  | .dk _ _ => some "dict"
  | .dt _ _ => none
  | .obj _ _ _ => none
  | .own _ => none
  | .st _ _ => none
def isiD (T : String) (d : D) : Res D := match tyN d with
  | some n => match kitB n T with
    | some b => .ok (.bl b)
    | none => .bad
  | none => .bad
theorem RpB.ty {K : PySem.W.Frag} {cm : CM} {S H : Hp} {v : V} {d : D} {n : String} (h : RpB K cm S H v d) (ex : Ex S H) (q : tyN d = some n) : TyX K H v (.type n) := by
  cases d with
  | non => cases h.non; cases q; exact .base .non
  | bl b => cases h.bl; cases q; exact .base (.bl b)
  | int i => cases h.int; cases q; exact .base (.int i)
  | str s => cases h.str; cases q; exact .base (.str s)
  | lst ds => obtain ⟨p, xs, rfl, a, r⟩ := h.list ex; cases q; exact .base (.lst a)
  | fz ds =>
    obtain ⟨p, xs, rfl, a, r⟩ := h.fz ex; cases q
    rcases a with (a | ⟨o, a⟩) | ⟨o, its, m, a1, a2, _⟩
    · exact .base (.lst a)
    · exact .base (.frz a)
    · exact .kList a1 a2
  | tup ds =>
    obtain ⟨p, xs, rfl, a, r, s⟩ := h.tup ex; cases q
    rcases a with (a | ⟨o, a⟩) | ⟨o, its, m, a1, a2, _⟩
    · exact .base (.tup a)
    · exact .fTuple a
    · exact .kTuple a1 a2
  | dk ks vs =>
    obtain ⟨p, xs, rfl, a, r⟩ := h.dk ex; cases q
    rcases a with a | ⟨o, a⟩
    · exact .base (.dK a)
    · exact .fDict a
  | dt ks vs => cases q
  | kt ds =>
    obtain ⟨p, xs, rfl, a, r, s⟩ := h.kt ex; cases q
    rcases a with (a | ⟨o, a⟩) | ⟨o, its, m, a1, a2, _⟩
    · exact .base (.tup a)
    · exact .fTuple a
    · exact .kTuple a1 a2
  | obj n ns vs => cases q
  | own k => cases q
  | st k M => cases q
/-- the class's name is a built-in's that stands as it was -/
theorem de_isi {x : Str} {pT : Pos} (T : String) (hm : X.mg "isinstance" = none) (hg : Gl X "isinstance") (gT : Gl X x) (mT : X.mg x = none) (bT : bootBuiltins x = some (.type T)) (ha : PE X e (tR c G f)) (hK : c.K = X.K := by rfl)
    (hn : x ≠ "__name__" := by decide) (hd : (x == ("__debug__" : Str)) = false := by decide)
    (hs1 : starEach [e, .Name x pT] X.env = (false, eval e X.env) :: starEach [.Name x pT] X.env := by rfl) (hs2 : starEach [.Name x pT] X.env = (false, eval (.Name x pT) X.env) :: starEach [] X.env := by rfl) (hpl : (backTo pos (starEach [.Name x pT] X.env)).any (·.1) = false := by rfl) :
    PE X (.Call (.Name "isinstance" p) [e, .Name x pT] [] pos) (tV c G (dUn (isiD T) f)) := by
  have hT : PE X (.Name x pT) (tC (.ty T)) := pe_bltn gT mT bT rfl hn hd
  refine pe_imp (pe_callB call_isi hg hm (by decide +kernel) (pa_cons ha (pa_cons hT pa_nil hs2) hs1) (he := hs1) (hpl := hpl)) fun σ H Q ⟨S0, H0, S, r, ok, p⟩ => rd_seq ok p fun d v S1 H1 w1 o1 m1 p1 => ?_
  unfold isiD at p1
  split at p1
  · rename_i n hn
    split at p1
    · rename_i b hb
      exact ⟨v, .ty T, .type n, .type T, b, rfl, .ty T, by rw [← hK]; exact RpB.ty m1 o1.ex hn, kit_ty hb, p1.go o1.ex _ (.bl _)⟩
    · exact p1.elim
  · exact p1.elim
noncomputable def ixD : D → D → Res D
  | .lst ds, .int i => match atI ds i with
    | some d => .ok d
    | none => .bad
  | .fz ds, .int i => match atI ds i with
    | some d => .ok d
    | none => .bad
  | .tup ds, .int i => match atI ds i with
    | some d => .ok d
    | none => .bad
  | .kt ds, .int i => match atI ds i with
    | some d => .ok d
    | none => .bad
  | .str z, .int i => guard (z.length ≤ sizeLine) (match atI z.cps.toList i with
    | some n => .ok (.str ⟨#[n]⟩)
    | none => .bad)
  | _, _ => .bad
theorem RpA.atI {K : PySem.W.Frag} {cm : CM} {S : Hp} {xs : List V} {ds : List D} {i : Int} {d : D} (h : RpA K cm S xs ds) (q : atI ds i = some d) : ∃ v, L2.atI xs i = some v ∧ Rp K cm S v d := by
  unfold L2.atI at q ⊢
  rw [h.length]
  cases hj : ixN ds.length i with
  | none => rw [hj] at q; cases q
  | some j => rw [hj] at q; exact h.get q
theorem os_ix : OpS c (mV c) (rIx c.K) ixD := by
  intro σ S H x y d e Q ex hx hy p
  unfold ixD at p
  split at p
  · split at p
    · rename_i hd
      obtain ⟨q, xs, rfl, a1, r1⟩ := hx.list ex
      cases hy.int
      obtain ⟨v, h1, h2⟩ := r1.atI hd
      exact .inl ⟨q, xs, _, v, rfl, rfl, .inl (.inl a1), h1, p.here ex h2⟩
    · exact p.elim
  · split at p
    · rename_i hd
      obtain ⟨q, xs, rfl, a1, r1⟩ := hx.fz ex
      cases hy.int
      obtain ⟨v, h1, h2⟩ := r1.atI hd
      exact .inl ⟨q, xs, _, v, rfl, rfl, a1, h1, p.here ex h2⟩
    · exact p.elim
  · split at p
    · rename_i hd
      obtain ⟨q, xs, rfl, a1, r1, s1⟩ := hx.tup ex
      cases hy.int
      obtain ⟨v, h1, h2⟩ := r1.atI hd
      exact .inr (.inl ⟨q, xs, _, v, rfl, rfl, a1, h1, p.here ex h2⟩)
    · exact p.elim
  · split at p
    · rename_i hd
      obtain ⟨q, xs, rfl, a1, r1, s1⟩ := hx.kt ex
      cases hy.int
      obtain ⟨v, h1, h2⟩ := r1.atI hd
      exact .inr (.inl ⟨q, xs, _, v, rfl, rfl, a1, h1, p.here ex h2⟩)
    · exact p.elim
  · obtain ⟨hl, p⟩ := p.gd
    cases hx.str; cases hy.int
    split at p
    · rename_i hd
      exact .inr (.inr ⟨_, _, _, rfl, rfl, hl, hd, p.here ex (.str _)⟩)
    · exact p.elim
  · exact p.elim
theorem de_ix (ha : PE X a (tR c G f1)) (hb : PE X b (tR c G f2)) (hs : PlainIx b) (hK : c.K = X.K := by rfl) : PE X (.Subscript a b pos) (tV c G (dOp ixD f1 f2)) :=
  pe_imp (pe_ix ix_seq ha hb hs) (by rw [← hK]; exact op_rd os_ix)
def cutL {α : Type} (xs : List α) (lo hi : Option Int) : List α := (xs.drop (HT.sIx xs.length 0 lo)).take (HT.sIx xs.length xs.length hi - HT.sIx xs.length 0 lo)
def asI : D → Res Int
  | .int i => .ok i
  | _ => .bad
def dNoP : Rho → Res (Option Int) := fun _ => .ok none
def dPart (f : Rho → Res D) : Rho → Res (Option Int) := fun r => (f r).bind fun d => (asI d).bind fun i => .ok (some i)
theorem po_imp {oe : Option Expr} {t t' : TO} (h : PO X oe t) (k : ∀ σ H Q, t' σ H Q → t σ H Q) : PO X oe t' := ⟨fun pins s σ H Q I q => h.run pins s σ H Q I (k σ H Q q)⟩
abbrev tP (c : Cf) (G : List Ow) (f : Rho → Res (Option Int)) : TO := rd c G f (mE (Option Int))
theorem dp_none : PO X none (tP c G dNoP) := po_imp po_none fun σ H Q ⟨S0, H0, S, r, ok, p⟩ => p.go ok.ex _ rfl
theorem of_asI {σ : St} {S H : Hp} {d : D} {k : Int → Hp → Hp → Prop} (p : PostG c σ S H (asI d) k) : ∃ i, d = .int i ∧ PostG c σ S H (.ok i) k := by
  cases d with
  | int i => exact ⟨i, rfl, p⟩
  | _ => exact p.elim
theorem dp_some (h : PE X e (tV c G f)) : PO X (some e) (tP c G (dPart f)) := po_imp (po_some h) fun σ H Q ⟨S0, H0, S, r, ok, p⟩ => rd_seq ok p fun d v S1 H1 w1 o1 m1 p1 => by
  obtain ⟨i, rfl, q1⟩ := of_asI p1.unbind
  cases m1
  exact ⟨i, rfl, (q1.go o1.ex).go o1.ex _ rfl⟩
variable {fl fh : Rho → Res (Option Int)} {lo hi : Option Expr} {p2 : Pos}
noncomputable def slD (d : D) (lo hi : Option Int) : Res D := match d with
  | .lst ds => .ok (.lst (cutL ds lo hi))
  | .fz ds => .ok (.lst (cutL ds lo hi))
  | .tup ds => .ok (.tup (cutL ds lo hi))
  | .str z => guard (z.length ≤ sizeLine) (.ok (.str (cutS z lo hi)))
  | _ => .bad
def dSl (g : D → Option Int → Option Int → Res D) (f : Rho → Res D) (fl fh : Rho → Res (Option Int)) : Rho → Res D := fun r => (f r).bind fun d => (fl r).bind fun l => (fh r).bind fun h => g d l h
def rSlX (K : PySem.W.Frag) : V → Option Int → Option Int → Hp → VK → Prop := fun x lo hi H Q => rSlL K x lo hi H Q ∨ rSlA K x lo hi H Q ∨ rSlS x lo hi H Q
theorem sl_x : SlR X (rSlX X.K) := sl_list.or (sl_tupA.or sl_str)
theorem RpA.cut {K : PySem.W.Frag} {cm : CM} {S : Hp} {xs : List V} {ds : List D} {lo hi : Option Int} (h : RpA K cm S xs ds) : RpA K cm S (cutV xs lo hi) (cutL ds lo hi) := by
  unfold cutV cutL
  rw [h.length]
  exact (h.drop _).take _
theorem cutV_whole {xs : List V} {lo hi : Option Int} (h : HT.sIx xs.length 0 lo = 0 ∧ HT.sIx xs.length xs.length hi = xs.length) : cutV xs lo hi = xs := by
  unfold cutV
  rw [h.1, h.2]
  simp
theorem de_sl (ha : PE X a (tR c G f)) (hl : PO X lo (tP c G fl)) (hh : PO X hi (tP c G fh)) (hK : c.K = X.K := by rfl) : PE X (.Subscript a (.Slice lo hi none p2) pos) (tV c G (dSl slD f fl fh)) :=
  pe_imp (pe_slice sl_x ha hl hh) fun σ H Q ⟨S0, H0, S, r, ok, p⟩ => rd_seq ok p fun d v S1 H1 w1 o1 m1 p1 => rd_seq o1 p1 fun l l' S2 H2 w2 o2 m2 p2 => rd_seq o2 p2 fun h h' S3 H3 w3 o3 m3 p3 => by
    have m1 := RpB.mono m1 (w2.s.trans w3.s) (w2.h.trans w3.h)
    rw [show l' = l from m2, show h' = h from m3, ← hK]
    cases d with
    | lst ds =>
      obtain ⟨q, xs, rfl, a1, r1⟩ := m1.list o3.ex
      exact .inl ⟨q, xs, rfl, .inl (.inl a1), fun q hq => PostG.laid p3 o3.ex hq (.lst upd_same (r1.cut.mono (Ex.new (o3.ex.nn hq))))⟩
    | fz ds =>
      obtain ⟨q, xs, rfl, a1, r1⟩ := m1.fz o3.ex
      exact .inl ⟨q, xs, rfl, a1, fun q hq => PostG.laid p3 o3.ex hq (.lst upd_same (r1.cut.mono (Ex.new (o3.ex.nn hq))))⟩
    | tup ds =>
      obtain ⟨q, xs, rfl, a1, r1, s1⟩ := m1.tup o3.ex
      refine .inr (.inl ⟨q, xs, rfl, a1, fun hw => p3.go o3.ex _ (.tup s1 ?_), fun _ q hq => PostG.laid p3 o3.ex hq (.tup upd_same (r1.cut.mono (Ex.new (o3.ex.nn hq))))⟩)
      have := r1.cut (lo := l) (hi := h)
      rw [cutV_whole hw] at this
      exact this
    | str z =>
      obtain ⟨hl, p3⟩ := p3.gd
      cases m1.str
      exact .inr (.inr ⟨z, rfl, hl, p3.go o3.ex _ (.str _)⟩)
    | _ => exact p3.elim
/-- a slice of a list, the new list one's own -/
def slL (d : D) (lo hi : Option Int) : Res D := match d with
  | .lst ds => .ok (.lst (cutL ds lo hi))
  | .fz ds => .ok (.lst (cutL ds lo hi))
  | _ => .bad
end
end Dx
end S_DxD
section S_DxE
set_option Elab.async false
set_option linter.all false
set_option maxRecDepth 100000
set_option maxHeartbeats 2000000
namespace Dx
open PySem L2
/-- what is wanted behind a statement -/
def PostS (c : Cf) (S0 H0 : Hp) (L G' : List Ow) (o : SR) (E : Ends) : Prop :=
  match o with
  | .nx r => ∀ σ' S' H', EnvOk c S0 H0 G' S' H' σ' r → E.nx σ' H'
  | .rt d => if c.rm then ∀ p ho S' H', Fwd S0 H0 S' H' → H0 p = none → S' p = none → H' p = some ho → RpO c.K c.cm S' ho d → E.rt (.ref p) H'
      else ∀ v S' H', Fwd S0 H0 S' H' → Rp c.K c.cm S' v d → E.rt v H'
  | .bk r => ∀ σ' S' H', EnvOk c S0 H0 L S' H' σ' r → E.bk σ' H'
  | .ct r => ∀ σ' S' H', EnvOk c S0 H0 L S' H' σ' r → E.ct σ' H'
  | .er r n ns vs => ∀ C dd σ' S' H' fs, c.cm n = some C → Fwd S0 H0 S' H' → (∀ g, c.ge = some g → EnvOk c S0 H0 g S' H' σ' r) → S' dd = some (.xd fs) → ns = fs.map (·.1) → RpA c.K c.cm S' (fs.map (·.2)) vs → c.W (.ref C) (some dd) σ' H'
  | .bad => False
def sD (c : Cf) (L G G' : List Ow) (F : Rho → SR) : TS := fun E σ H => ∃ S0 H0 S r, EnvOk c S0 H0 G S H σ r ∧ PostS c S0 H0 L G' (F r) E
def liftS {α : Type} (r : Rho) (x : Res α) (k : α → SR) : SR := match x with
  | .ok a => k a
  | .err n ns vs => .er r n ns vs
  | .bad => .bad
/-- where a try's clauses ask for the slots, the kinds are the ones told -/
def Gok (c : Cf) (G : List Ow) : Prop := ∀ g, c.ge = some g → g = G
section
variable {X : Cx} {c : Cf} {L G G' G'' : List Ow} {σ : St} {S0 H0 S H : Hp} {r : Rho} {α β : Type} {E : Ends}
theorem st_seq {f : Rho → Res α} {R : Md β α} (hg : Gok c G) (e : EnvOk c S0 H0 G S H σ r) {k : α → SR} (p : PostS c S0 H0 L G' (liftS r (f r) k) E) {Q : β → Hp → Prop}
    (h : ∀ a b S' H', Fwd S H S' H' → EnvOk c S0 H0 G S' H' σ r → R H S' H' b a → PostS c S0 H0 L G' (k a) E → Q b H') : rd c G f R σ H Q := by
  refine ⟨S0, H0, S, r, e, ?_⟩
  cases hf : f r with
  | ok a => rw [hf] at p; exact fun S' H' fw b hb => h a b S' H' fw (e.go fw) hb p
  | err n ns vs =>
    rw [hf] at p
    exact fun C dd S' H' fs h1 fw h2 h3 h4 => p C dd σ S' H' fs h1 (e.fwd.trans fw) (fun g q => by rw [hg g q]; exact e.go fw) h2 h3 h4
  | bad => rw [hf] at p; exact p.elim
/-- the stable part as the new base -/
theorem EnvOk.rebase (e : EnvOk c S0 H0 G S H σ r) : EnvOk c S H0 G S H σ r := ⟨⟨Ex.refl, e.fwd.h, e.fwd.sub, fun a o h n => by rw [n] at h; cases h⟩, e.len, e.slot, e.sep, e.sto⟩
theorem Fwd.unbase {S' H' : Hp} (f : Fwd S0 H0 S H) (g : Fwd S H0 S' H') : Fwd S0 H0 S' H' := ⟨f.s.trans g.s, g.h, g.sub, fun a o h n => by
  cases q : S a with
  | some u => exact f.new a u q n
  | none => exact g.new a o h q⟩
theorem EnvOk.unbase {S' H' : Hp} {σ' : St} {r' : Rho} (f : Fwd S0 H0 S H) (e : EnvOk c S H0 G' S' H' σ' r') : EnvOk c S0 H0 G' S' H' σ' r' := ⟨f.unbase e.fwd, e.len, e.slot, e.sep, e.sto⟩
theorem PostS.rebase {o : SR} (f : Fwd S0 H0 S H) (p : PostS c S0 H0 L G' o E) : PostS c S H0 L G' o E := by
  cases o with
  | nx r => exact fun σ' S' H' e => p σ' S' H' (e.unbase f)
  | rt d =>
    unfold PostS at p ⊢
    dsimp only at p ⊢
    split
    · rename_i h
      rw [if_pos h] at p
      exact fun q ho S' H' w => p q ho S' H' (f.unbase w)
    · rename_i h
      rw [if_neg h] at p
      exact fun v S' H' w => p v S' H' (f.unbase w)
  | bk r => exact fun σ' S' H' e => p σ' S' H' (e.unbase f)
  | ct r => exact fun σ' S' H' e => p σ' S' H' (e.unbase f)
  | er r n ns vs => exact fun C dd σ' S' H' fs h1 w h2 => p C dd σ' S' H' fs h1 (f.unbase w) fun g q => (h2 g q).unbase f
  | bad => exact p
def seqF (F K : Rho → SR) : Rho → SR := fun r => match F r with
  | .nx r' => K r'
  | o => o
theorem ds_nil : PSs X [] (sD c L G G .nx) := pss_imp pss_nil fun E σ H ⟨S0, H0, S, r, ok, p⟩ => p σ S H ok
theorem ds_cons {st : Stmt} {rest : List Stmt} {F K : Rho → SR} (h1 : PS X st (sD c L G G' F)) (h2 : PSs X rest (sD c L G' G'' K)) : PSs X (st :: rest) (sD c L G G'' (seqF F K)) := pss_imp (pss_cons h1 h2) fun E σ H ⟨S0, H0, S, r, ok, p⟩ => by
  refine ⟨S0, H0, S, r, ok, ?_⟩
  unfold seqF at p
  cases hF : F r with
  | nx r' => rw [hF] at p; exact fun σ' S' H' e => ⟨S0, H0, S', r', e, p⟩
  | rt d => rw [hF] at p; exact p
  | bk r' => rw [hF] at p; exact p
  | ct r' => rw [hF] at p; exact p
  | er r' n ns vs => rw [hF] at p; exact p
  | bad => rw [hF] at p; exact p.elim
theorem ds_one {st : Stmt} {F : Rho → SR} (h1 : PS X st (sD c L G G' F)) : PSs X [st] (sD c L G G' F) := pss_one h1
/-- an own object becomes a value, ahead of a block; behind one -/
theorem EnvOk.pubL (e : EnvOk c S0 H0 G S H σ r) (i : Nat) (hk : kd G i = .o ∨ kd G i = .v) : Lo (fun H => ∃ S', EnvOk c S0 H0 (G.set i .v) S' H σ r) H := by
  by_cases h : kd G i = .o ∧ ∃ d, r[i]? = some (some d) ∧ isDct d = true
  · obtain ⟨k, d, h1, h2⟩ := h
    exact .inr (e.pubD i k h1 h2)
  · by_cases k : kd G i = .o
    · exact .inl (e.pub i hk fun d hd => by
        cases q : isDct d with
        | false => rfl
        | true => exact (h ⟨k, d, hd, q⟩).elim)
    · have k' : kd G i = .v := hk.resolve_left k
      have all : ∀ j, kd (G.set i .v) j = kd G j := fun j => by
        by_cases ne : i = j
        · subst ne; rw [kd_set_self, k']
        · exact kd_set_ne ne
      exact .inl ⟨S, e.fwd, e.len, fun j b hb => by rw [all]; exact e.slot j b hb, fun j l b b' q hj hk kj kk sj sk => e.sep j l b b' q hj hk ((all j) ▸ kj) ((all l) ▸ kk) sj sk, e.sto_un i hk⟩
theorem Lo.imp {Q R : Hp → Prop} {H : Hp} (h : Lo Q H) (k : ∀ H, Q H → R H) : Lo R H := by
  rcases h with h | ⟨p, u, h1, h2, h⟩
  · exact .inl (k _ h)
  · exact .inr ⟨p, u, h1, h2, fun w => k _ (h w)⟩
theorem ds_pub {sts : List Stmt} {F : Rho → SR} (i : Nat) (h : PSs X sts (sD c L (G.set i .v) G' F)) (hk : kd G i = .o ∨ kd G i = .v) : PSs X sts (sD c L G G' F) := pss_lock h fun E σ H ⟨S0, H0, S, r, ok, p⟩ =>
  (ok.pubL i hk).imp fun H' ⟨S', ok'⟩ => ⟨S0, H0, S', r, ok', p⟩
variable {e : Expr} {pos : Pos} {f : Rho → Res D}
def setF (i : Nat) (f : Rho → Res D) : Rho → SR := fun r => liftS r (f r) fun d => .nx (r.set i (some d))
/-- x = e -/
theorem ds_set (i : Nat) {x : Str} {pos' : Pos} (hg : Gok c G) (hN : X.N.Nodup) (hi : X.N[i]? = some x) (hx : Loc X.env.scope x) (he : PE X e (tV c G f)) (hs : swapsWith e (some (.Name x pos')) pos.line X.env = pure false := by rfl)
    (hf : X.fn x = true ∨ X.env.scope.names.lookup x = some .local := by first | exact .inl rfl | exact .inr rfl | assumption) : PS X (.Assign [.Name x pos'] e pos) (sD c L G (G.set i .v) (setF i f)) :=
  ps_imp (ps_set hN hi hx he hs hf) fun E σ H ⟨S0, H0, S, r, ok, p⟩ => st_seq hg ok p fun d v S1 H1 w1 o1 m1 p1 => p1 _ S1 H1 (o1.setV i m1)
/-- x = e, a new object of one's own -/
theorem ds_setO (i : Nat) {x : Str} {pos' : Pos} (hg : Gok c G) (hG : i < G.length) (hN : X.N.Nodup) (hi : X.N[i]? = some x) (hx : Loc X.env.scope x) (he : PE X e (tO c G f)) (hs : swapsWith e (some (.Name x pos')) pos.line X.env = pure false := by rfl)
    (hf : X.fn x = true ∨ X.env.scope.names.lookup x = some .local := by first | exact .inl rfl | exact .inr rfl | assumption) : PS X (.Assign [.Name x pos'] e pos) (sD c L G (G.set i .o) (setF i f)) :=
  ps_imp (ps_set hN hi hx he hs hf) fun E σ H ⟨S0, H0, S, r, ok, p⟩ => st_seq hg ok p fun d v S1 H1 w1 o1 m1 p1 => by
    obtain ⟨q, ho, rfl, n, ns, hp, h⟩ := m1
    exact p1 _ S1 H1 (ok.setO w1 i hG n ns hp h)
def retF (f : Rho → Res D) : Rho → SR := fun r => liftS r (f r) .rt
theorem ds_ret (hg : Gok c G) (hr : c.rm = false) (he : PE X e (tV c G f)) : PS X (.Return (some e) pos) (sD c L G G' (retF f)) := ps_imp (ps_ret he) fun E σ H ⟨S0, H0, S, r, ok, p⟩ => st_seq hg ok p fun d v S1 H1 w1 o1 m1 p1 => by
  unfold PostS at p1
  rw [hr] at p1
  exact p1 v S1 H1 o1.fwd m1
def dropF {α : Type} (f : Rho → Res α) : Rho → SR := fun r => liftS r (f r) fun _ => .nx r
theorem ds_expr {R : Md V D} (hg : Gok c G) (he : PE X e (rd c G f R)) (hs : swapsWith e none pos.line X.env = pure false := by rfl) : PS X (.Expr e pos) (sD c L G G (dropF f)) := ps_imp (ps_expr he hs) fun E σ H ⟨S0, H0, S, r, ok, p⟩ =>
  st_seq hg ok p fun d v S1 H1 w1 o1 m1 p1 => p1 σ S1 H1 o1
theorem ds_cont : PS X (.Continue pos) (sD c G G G' .ct) := ps_imp ps_continue fun E σ H ⟨S0, H0, S, r, ok, p⟩ => p σ S H ok
def ifF (t : Rho → Res Bool) (F K : Rho → SR) : Rho → SR := fun r => liftS r (t r) fun b => if b = true then F r else K r
theorem ds_if {cnd : Expr} {sa sb : List Stmt} {t : Rho → Res Bool} {F K : Rho → SR} (hg : Gok c G) (hc : PT X cnd (tT c G t)) (ha : PSs X sa (sD c L G G' F)) (hb : PSs X sb (sD c L G G' K)) : PS X (.If cnd sa sb pos) (sD c L G G' (ifF t F K)) :=
  ps_imp (ps_if hc ha hb) fun E σ H ⟨S0, H0, S, r, ok, p⟩ => st_seq hg ok p fun x v S1 H1 w1 o1 m1 p1 => by
    rw [show v = x from m1]
    cases x with
    | true => exact ⟨S0, H0, S1, r, o1, p1⟩
    | false => exact ⟨S0, H0, S1, r, o1, p1⟩
variable {a b : Expr} {f1 f2 : Rho → Res D} {apos cpos p' : Pos}
/-- the own list in slot i -/
def ownL (i : Nat) (r : Rho) : Res (List D) := match r[i]? with
  | some (some (.lst ds)) => .ok ds
  | _ => .bad
theorem of_ownL {i : Nat} {k : List D → SR} (e : EnvOk c S0 H0 G S H σ r) (kd' : kd G i = .o) (p : PostS c S0 H0 L G' (liftS r (ownL i r) k) E) :
    ∃ q xs ds, r[i]? = some (some (.lst ds)) ∧ σ[i]? = some (some (.ref q)) ∧ H q = some (.lst xs) ∧ RpA c.K c.cm S xs ds ∧ PostS c S0 H0 L G' (k ds) E := by
  unfold ownL at p
  split at p
  · rename_i ds hd
    obtain ⟨q, ho, s1, s2, s3, s4, s5⟩ := e.own kd' hd
    cases s5 with
    | lst r1 => exact ⟨q, _, ds, hd, s1, s2, r1, p⟩
  · exact p.elim
noncomputable def guardS (p : Prop) (x : SR) : SR := @ite _ p (Classical.propDecidable p) x .bad
theorem guardS_pos {p : Prop} {x : SR} (h : p) : guardS p x = x := by unfold guardS; exact if_pos h
noncomputable def appF (i : Nat) (f : Rho → Res D) : Rho → SR := fun r => liftS r (ownL i r) fun ds => liftS r (f r) fun d => guardS (ds.length < sizeLine) (.nx (r.set i (some (.lst (ds ++ [d])))))
theorem PostS.ite {p : Prop} [Decidable p] {x : SR} (h : PostS c S0 H0 L G' (if p then x else .bad) E) : p ∧ PostS c S0 H0 L G' x E := by
  by_cases hp : p
  · rw [if_pos hp] at h; exact ⟨hp, h⟩
  · rw [if_neg hp] at h; exact h.elim
theorem PostS.gd {p : Prop} {x : SR} (h : PostS c S0 H0 L G' (guardS p x) E) : p ∧ PostS c S0 H0 L G' x E := by
  by_cases hp : p
  · rw [guardS_pos hp] at h; exact ⟨hp, h⟩
  · unfold guardS at h; rw [if_neg hp] at h; exact h.elim
theorem pe_app {o : Expr} {to te : TE} (ho : PE X o to) (he : PE X e te) (hbase : attributeBase o "append" X.env (eval o X.env) = eval o X.env := by rfl)
    (hfew : ((backTo cpos (starEach [e] X.env)).all (fun x => !x.1) && (backToKw cpos (keywordEach [] X.env)).all (fun x => x.1.isSome) && decide ([e].length + ([] : List Keyword).length + (if ([] : List Keyword).isEmpty then 0 else 1) < 30)) = true := by rfl)
    (hline : (apos.endLine == cpos.line) = true := by rfl) (hs : starEach [e] X.env = (false, eval e X.env) :: starEach [] X.env := by rfl) :
    PE X (.Call (.Attribute o "append" apos) [e] [] cpos) (tBM X.K "list" rAppend to (tCons te tNil)) :=
  pe_bm PySem.F.plainAttrs_list PySem.F.slot_list_append PySem.F.type_list_append mt_append ho (pa_cons he pa_nil hs) hbase hfew hline hs rfl
theorem ds_app (i : Nat) {x : Str} {pn : Pos} (hg : Gok c G) (k : kd G i = .o) (ho : PE X (.Name x pn) (tVar i)) (he : PE X e (tV c G f)) (hw : swapsWith (.Call (.Attribute (.Name x pn) "append" apos) [e] [] cpos) none pos.line X.env = pure false := by rfl)
    (hbase : attributeBase (.Name x pn) "append" X.env (eval (.Name x pn) X.env) = eval (.Name x pn) X.env := by rfl)
    (hfew : ((backTo cpos (starEach [e] X.env)).all (fun x => !x.1) && (backToKw cpos (keywordEach [] X.env)).all (fun x => x.1.isSome) && decide ([e].length + ([] : List Keyword).length + (if ([] : List Keyword).isEmpty then 0 else 1) < 30)) = true := by rfl)
    (hline : (apos.endLine == cpos.line) = true := by rfl) (hs : starEach [e] X.env = (false, eval e X.env) :: starEach [] X.env := by rfl) :
    PS X (.Expr (.Call (.Attribute (.Name x pn) "append" apos) [e] [] cpos) pos) (sD c L G G (appF i f)) :=
  ps_imp (ps_expr (pe_app ho he hbase hfew hline hs) hw) fun E σ H ⟨S0, H0, S, r, ok, p⟩ => by
    obtain ⟨q, xs, ds, hd, z1, z2, z3, p1⟩ := of_ownL ok k p
    refine ⟨.ref q, z1, .inl ⟨rfl, xs, .inl (.inl z2)⟩, st_seq hg ok p1 fun d v S1 H1 w1 o1 m1 p2 => ?_⟩
    obtain ⟨hl, p2⟩ := p2.gd
    exact ⟨q, xs, v, rfl, rfl, w1.h _ _ z2, by rw [z3.length]; exact hl, p2 σ S1 _ (o1.mut k hd z1 (.lst ((z3.mono w1.s).app (.one m1))))⟩
/-- x[i] = e, x an own list -/
def stoF (i : Nat) (fi f : Rho → Res D) : Rho → SR := fun r => liftS r (f r) fun d => liftS r (ownL i r) fun ds => liftS r (fi r) fun k => liftS r (asI k) fun k => match ixN ds.length k with
  | some j => .nx (r.set i (some (.lst (ds.set j d))))
  | none => .bad
theorem ds_sto (i : Nat) {x : Str} {pn : Pos} {ix : Expr} {fi : Rho → Res D} (hg : Gok c G) (k : kd G i = .o) (ho : PE X (.Name x pn) (tVar i)) (hi : PE X ix (tV c G fi)) (he : PE X e (tV c G f))
    (ha : ∀ v, assign (.Subscript (.Name x pn) ix p') X.env v = (do
      let ov ← holding [v] (eval (.Name x pn) X.env)
      let iv ← holding [v, ov] (eval ix X.env)
      standAt p'
      holding [v, ov, iv] (setItem ov iv v)
      release [v, ov, iv] []) := by intro _; rfl)
    (hs : swapsWithSole [.Subscript (.Name x pn) ix p'] e pos.line X.env = pure false := by rfl) (hw : swappedStores [.Subscript (.Name x pn) ix p'] e X.env = pure none := by rfl)
    (h1 : (assignEach [.Subscript (.Name x pn) ix p'] X.env).map (·.2) = [assign (.Subscript (.Name x pn) ix p') X.env] := by rfl) :
    PS X (.Assign [.Subscript (.Name x pn) ix p'] e pos) (sD c L G G (stoF i fi f)) :=
  ps_imp (ps_asg he (pg_sub ho hi set_list ha) hs hw h1) fun E σ H ⟨S0, H0, S, r, ok, p⟩ => st_seq hg ok p fun d v S1 H1 w1 o1 m1 p1 => by
    obtain ⟨q, xs, ds, hd, z1, z2, z3, p2⟩ := of_ownL o1 k p1
    refine ⟨.ref q, z1, st_seq hg o1 p2 fun kk u S2 H2 w2 o2 m2 p3 => ?_⟩
    cases kk with
    | int j =>
      cases m2
      dsimp only [asI, liftS] at p3
      split at p3
      · rename_i n hn
        refine ⟨q, xs, j, n, rfl, rfl, w2.h _ _ z2, by rw [z3.length]; exact hn, p3 σ S2 _ (o2.mut k hd z1 (.lst (RpA.set (Rp.mono w2.s m1) n (z3.mono w2.s))))⟩
      · exact p3.elim
    | _ => exact p3.elim
/-- what is wanted behind a target -/
def PostR (c : Cf) (S0 H0 S H : Hp) (G' : List Ow) (σ : St) (ks : List Nat) (x : Res Rho) (Q : St → Hp → Prop) : Prop := match x with
  | .ok r' => ∀ σ', wipe σ' ks = wipe σ ks → EnvOk c S0 H0 G' S H σ' r' → Q σ' H
  | _ => False
theorem wipe_get (σ : St) : ∀ (vs : List Nat) (i : Nat), (wipe σ vs)[i]? = if i ∈ vs then σ[i]?.map (fun _ => none) else σ[i]?
  | [], i => by simp [wipe]
  | v :: vs, i => by
    show ((wipe σ vs).set v none)[i]? = _
    by_cases h : v = i
    · subst h
      rw [List.getElem?_set, if_pos rfl, wipe_length, if_pos (List.mem_cons_self)]
      split
      · rename_i hl; simp [List.getElem?_eq_getElem hl]
      · rename_i hl; rw [List.getElem?_eq_none (by omega)]; rfl
    · rw [List.getElem?_set_ne h, wipe_get σ vs i]
      have : (i ∈ v :: vs) ↔ i ∈ vs := by simp [List.mem_cons, Ne.symm h]
      simp only [this]
theorem wipe_set {σ : St} {i : Nat} {x : Option V} : wipe (σ.set i x) [i] = wipe σ [i] := by
  show (σ.set i x).set i none = σ.set i none
  exact List.set_set _
theorem wipe_len {σ σ' : St} {ks : List Nat} (h : wipe σ' ks = wipe σ ks) : σ'.length = σ.length := by
  have := congrArg List.length h
  rw [wipe_length, wipe_length] at this
  exact this
theorem wipe_get_eq {σ σ' : St} {ks : List Nat} (h : wipe σ' ks = wipe σ ks) {i : Nat} (hi : i ∉ ks) : σ'[i]? = σ[i]? := by
  have := congrArg (fun l : St => l[i]?) h
  simp only [wipe_get, if_neg hi] at this
  exact this
theorem wipe_app {σ σ1 σ2 : St} {k1 k2 : List Nat} (h1 : wipe σ1 k1 = wipe σ k1) (h2 : wipe σ2 k2 = wipe σ1 k2) : wipe σ2 (k1 ++ k2) = wipe σ (k1 ++ k2) := by
  have l1 := wipe_len h1
  have l2 := wipe_len h2
  apply List.ext_getElem?
  intro i
  rw [wipe_get, wipe_get]
  by_cases hi : i ∈ k1 ++ k2
  · rw [if_pos hi, if_pos hi]
    by_cases hl : i < σ.length
    · rw [List.getElem?_eq_getElem hl, List.getElem?_eq_getElem (show i < σ2.length by omega)]; rfl
    · rw [List.getElem?_eq_none (by omega), List.getElem?_eq_none (by omega)]
  · rw [if_neg hi, if_neg hi]
    have a1 : i ∉ k1 := fun z => hi (List.mem_append_left _ z)
    have a2 : i ∉ k2 := fun z => hi (List.mem_append_right _ z)
    rw [wipe_get_eq h2 a2, wipe_get_eq h1 a1]
/-- a target by data -/
def gD (c : Cf) (G G' : List Ow) (ks : List Nat) (t : D → Rho → Res Rho) : TG := fun v σ H Q => ∃ S0 H0 S r d, EnvOk c S0 H0 G S H σ r ∧ Rp c.K c.cm S v d ∧ PostR c S0 H0 S H G' σ ks (t d r) Q
theorem pg_imp {tg : Expr} {t t' : TG} (h : PG X tg t) (k : ∀ v σ H Q, t' v σ H Q → t v σ H Q) : PG X tg t' := ⟨fun pins s σ H v u Q I r q => h.run pins s σ H v u Q I r (k v σ H Q q)⟩
theorem pgs_imp {tg : List Expr} {t t' : TGs} (h : PGs X tg t) (k : ∀ v σ H Q, t' v σ H Q → t v σ H Q) : PGs X tg t' := ⟨fun pins s σ H v u Q I r q => h.run pins s σ H v u Q I r (k v σ H Q q)⟩
def tgN (i : Nat) : D → Rho → Res Rho := fun d r => .ok (r.set i (some d))
theorem dg_name (i : Nat) {x : Str} (hN : X.N.Nodup) (hi : X.N[i]? = some x) (hx : Loc X.env.scope x) (hf : X.fn x = true ∨ X.env.scope.names.lookup x = some .local := by first | exact .inl rfl | exact .inr rfl | assumption) :
    PG X (.Name x pos) (gD c G (G.set i .v) [i] (tgN i)) := pg_imp (pg_name hN hi hx hf) fun v σ H Q ⟨S0, H0, S, r, d, ok, hv, p⟩ => p _ wipe_set (ok.setV i hv)
def gDs (c : Cf) (G G' : List Ow) (ks : List Nat) (t : List D → Rho → Res Rho) : TGs := fun vs σ H Q => ∃ S0 H0 S r ds, EnvOk c S0 H0 G S H σ r ∧ RpA c.K c.cm S vs ds ∧ PostR c S0 H0 S H G' σ ks (t ds r) Q
def tgNil : List D → Rho → Res Rho
  | [], r => .ok r
  | _ :: _, _ => .bad
def tgCons (t : D → Rho → Res Rho) (u : List D → Rho → Res Rho) : List D → Rho → Res Rho
  | [], _ => .bad
  | d :: ds, r => (t d r).bind (u ds)
theorem dg_nil : PGs X [] (gDs c G G [] tgNil) := pgs_imp pgs_nil fun vs σ H Q ⟨S0, H0, S, r, ds, ok, hv, p⟩ => by
  cases hv with
  | nil => exact ⟨rfl, p σ rfl ok⟩
  | cons _ _ => exact p.elim
theorem dg_cons {es : List Expr} {t : D → Rho → Res Rho} {u : List D → Rho → Res Rho} {k1 k2 : List Nat} (h1 : PG X e (gD c G G' k1 t)) (h2 : PGs X es (gDs c G' G'' k2 u)) (hs : (assignEach (e :: es) X.env).map (·.2) = assign e X.env :: (assignEach es X.env).map (·.2) := by rfl) :
    PGs X (e :: es) (gDs c G G'' (k1 ++ k2) (tgCons t u)) := pgs_imp (pgs_cons h1 h2 hs) fun vs σ H Q ⟨S0, H0, S, r, ds, ok, hv, p⟩ => by
  cases hv with
  | nil => exact p.elim
  | @cons v vs d ds hv hr =>
    refine ⟨v, vs, rfl, S0, H0, S, r, d, ok, hv, ?_⟩
    have p : PostR c S0 H0 S H G'' σ (k1 ++ k2) ((t d r).bind (u ds)) Q := p
    cases ht : t d r with
    | ok r1 =>
      rw [ht] at p
      intro σ1 z1 ok1
      refine ⟨S0, H0, S, r1, ds, ok1, hr, ?_⟩
      have p : PostR c S0 H0 S H G'' σ (k1 ++ k2) (u ds r1) Q := p
      cases hu : u ds r1 with
      | ok r2 => rw [hu] at p; exact fun σ2 z2 ok2 => p σ2 (wipe_app z1 z2) ok2
      | err _ _ _ => rw [hu] at p; exact p.elim
      | bad => rw [hu] at p; exact p.elim
    | err _ _ _ => rw [ht] at p; exact p.elim
    | bad => rw [ht] at p; exact p.elim
def tgT (n : Nat) (u : List D → Rho → Res Rho) : D → Rho → Res Rho := fun d r => match d with
  | .tup ds => if ds.length = n then u ds r else .bad
  | .kt ds => if ds.length = n then u ds r else .bad
  | _ => .bad
theorem dg_tup {es : List Expr} {k n : Nat} {ks : List Nat} {u : List D → Rho → Res Rho} (hc : X.calm = true) (h : PGs X es (gDs c G G' ks u)) (hn : (assignEach es X.env).length = n := by rfl) (hst : (assignEach es X.env).findIdx? (·.1) = none := by rfl) (hK : c.K = X.K := by rfl) :
    PG X (.Tuple es k pos) (gD c G G' ks (tgT n u)) := pg_imp (pg_tup hc h hn hst) fun v σ H Q ⟨S0, H0, S, r, d, ok, hv, p⟩ => by
  unfold tgT at p
  cases hv with
  | @kt a xs ds q rr =>
    dsimp only at p
    by_cases hl : ds.length = n
    · rw [if_pos hl] at p
      exact ⟨a, xs, rfl, by rw [← hK]; exact ok.ex.t q, by rw [rr.length]; exact hl, S0, H0, S, r, ds, ok, rr, p⟩
    · rw [if_neg hl] at p; exact p.elim
  | @tup a xs ds q rr =>
    dsimp only at p
    by_cases hl : ds.length = n
    · rw [if_pos hl] at p
      exact ⟨a, xs, rfl, by rw [← hK]; exact .inl (.inl (ok.ex _ _ q)), by rw [rr.length]; exact hl, S0, H0, S, r, ds, ok, rr, p⟩
    · rw [if_neg hl] at p; exact p.elim
  | _ => exact p.elim
def asgF (t : D → Rho → Res Rho) (f : Rho → Res D) : Rho → SR := fun r => liftS r (f r) fun d => match t d r with
  | .ok r' => .nx r'
  | _ => .bad
/-- target = e -/
theorem ds_asg {tg : Expr} {ks : List Nat} {t : D → Rho → Res Rho} (hg : Gok c G) (he : PE X e (tV c G f)) (ht : PG X tg (gD c G G' ks t)) (hs : swapsWithSole [tg] e pos.line X.env = pure false := by rfl) (hw : swappedStores [tg] e X.env = pure none := by rfl)
    (h1 : (assignEach [tg] X.env).map (·.2) = [assign tg X.env] := by rfl) : PS X (.Assign [tg] e pos) (sD c L G G' (asgF t f)) := ps_imp (ps_asg he ht hs hw h1) fun E σ H ⟨S0, H0, S, r, ok, p⟩ => st_seq hg ok p fun d v S1 H1 w1 o1 m1 p1 => by
  refine ⟨S0, H0, S1, r, d, o1, m1, ?_⟩
  cases ht : t d r with
  | ok r' => rw [ht] at p1; exact fun σ' _ ok' => p1 σ' S1 H1 ok'
  | err _ _ _ => rw [ht] at p1; exact p1.elim
  | bad => rw [ht] at p1; exact p1.elim
/-- x, y = a, b -/
def parF (i j : Nat) (f1 f2 : Rho → Res D) : Rho → SR := fun r => liftS r (dCons f1 (dCons f2 dNil) r) fun ds => match ds with
  | [d, e] => .nx ((r.set i (some d)).set j (some e))
  | _ => .bad
def YOk (c : Cf) (S' : Hp) (ds : List D) (Y : Nat → Hp → V → Hp → Prop) : Prop := ∀ i S1 H1 x H2, i < ds.length → Ex S' S1 → Ex S1 H1 → Y i H1 x H2 → ∃ S2 d, Fwd S1 H1 S2 H2 ∧ ds[i]? = some d ∧ Rp c.K c.cm S2 x d
/-- the iterator J gives the data ds -/
def Gives (c : Cf) (H0 S' : Hp) (J : It) (ds : List D) : Prop := ∃ Gd Y, Walk J ds.length Gd Y ∧ (∀ S'' H'', Ex S' S'' → Ex S'' H'' → Ex H0 H'' → Gd H'') ∧ YOk c S' ds Y
def iD (c : Cf) (G : List Ow) (f : Rho → Res (List D)) : TI := fun σ H R => ∃ S0 H0 S r, EnvOk c S0 H0 G S H σ r ∧ PostG c σ S H (f r) fun ds S' H' => ∀ J, Gives c H0 S' J ds → R J H'
theorem pi_imp {tg it : Expr} {t t' : TI} (h : PI X tg it t) (k : ∀ σ H R, t' σ H R → t σ H R) : PI X tg it t' := ⟨fun pins s σ H R I q => h.run pins s σ H R I (k σ H R q)⟩
def dIt (g : D → Res (List D)) (f : Rho → Res D) : Rho → Res (List D) := fun r => (f r).bind g
theorem gives_list {c : Cf} {H0 S : Hp} {q : Addr} {xs : List V} {ds : List D} (h : SqL c.K S q xs) (rr : RpA c.K c.cm S xs ds) : Gives c H0 S (Itl c.K q) ds := by
  refine ⟨_, _, by rw [← rr.length]; exact walk_list (K := c.K) (a := q) (xs := xs), fun S'' H'' e1 e2 _ => e2.l (e1.l h), fun i S1 H1 x H2 hi e1 e2 y => ?_⟩
  obtain ⟨rfl, hx⟩ := y
  obtain ⟨d, h1, h2⟩ := rr.getV hx
  exact ⟨S1, d, Fwd.refl e2, h1, h2.mono e1⟩
theorem gives_tup {c : Cf} {H0 S : Hp} {q : Addr} {xs : List V} {ds : List D} (h : SqT c.K S q xs) (rr : RpA c.K c.cm S xs ds) : Gives c H0 S (Itt c.K q) ds := by
  refine ⟨_, _, by rw [← rr.length]; exact walk_tup (K := c.K) (a := q) (xs := xs), fun S'' H'' e1 e2 _ => e2.t (e1.t h), fun i S1 H1 x H2 hi e1 e2 y => ?_⟩
  obtain ⟨rfl, hx⟩ := y
  obtain ⟨d, h1, h2⟩ := rr.getV hx
  exact ⟨S1, d, Fwd.refl e2, h1, h2.mono e1⟩
variable {tg : Expr}
theorem di_list (he : PE X e (tV c G f)) (hK : c.K = X.K := by rfl) : PI X tg e (iD c G (dIt itemsL f)) := pi_imp (pi_list he) fun σ H R ⟨S0, H0, S, r, ok, p⟩ => rd_seq ok p fun d v S1 H1 w1 o1 m1 p1 => by
  rw [← hK]
  cases d with
  | lst ds =>
    cases m1 with | @lst q xs _ h rr =>
    exact ⟨q, rfl, ⟨xs, .inl (.inl (o1.ex _ _ h))⟩, p1.go o1.ex _ (gives_list (.inl (.inl h)) rr)⟩
  | fz ds =>
    cases m1 with | @fz q xs _ h rr =>
    exact ⟨q, rfl, ⟨xs, o1.ex.l h⟩, p1.go o1.ex _ (gives_list h rr)⟩
  | _ => exact p1.elim
theorem di_tup (he : PE X e (tV c G f)) (hK : c.K = X.K := by rfl) : PI X tg e (iD c G (dIt itemsT f)) := pi_imp (pi_tup he) fun σ H R ⟨S0, H0, S, r, ok, p⟩ => rd_seq ok p fun d v S1 H1 w1 o1 m1 p1 => by
  rw [← hK]
  cases d with
  | tup ds =>
    cases m1 with | @tup q xs _ h rr =>
    exact ⟨q, rfl, ⟨xs, .inl (.inl (o1.ex _ _ h))⟩, p1.go o1.ex _ (gives_tup (.inl (.inl h)) rr)⟩
  | _ => exact p1.elim
/-- range(n), range(a, b) -/
def rngL (lo : Int) (n : Nat) : List D := (List.range n).map fun (i : Nat) => D.int (lo + (i : Int))
theorem gives_rng {c : Cf} {H0 S : Hp} {lo : Int} {n : Nat} : Gives c H0 S (Itr lo n) (rngL lo n) := by
  have hl : (rngL lo n).length = n := by unfold rngL; simp
  refine ⟨_, _, by rw [hl]; exact walk_range, fun _ _ _ _ _ => trivial, fun i S1 H1 x H2 hi e1 e2 y => ?_⟩
  obtain ⟨rfl, rfl⟩ := y
  rw [hl] at hi
  exact ⟨S1, .int (lo + (i : Int)), Fwd.refl e2, by unfold rngL; simp [hi], .int _⟩
noncomputable def rng1 : List D → Res (List D)
  | [.int n] => guard (-4611686018427387904 ≤ n ∧ n < 4611686018427387904) (.ok (rngL 0 n.toNat))
  | _ => .bad
def dIts (g : List D → Res (List D)) (fs : Rho → Res (List D)) : Rho → Res (List D) := fun r => (fs r).bind g
theorem di_rng1 {p : Pos} {fs : Rho → Res (List D)} (hm : X.mg "range" = none) (hg : Gl X "range") (ha : PA X [a] (tAs c G fs)) (hs : starEach [a] X.env = [(false, eval a X.env)] := by rfl) : PI X tg (.Call (.Name "range" p) [a] [] pos) (iD c G (dIts rng1 fs)) :=
  pi_imp (pi_range1 hg hm ha hs) fun σ H R ⟨S0, H0, S, r, ok, p⟩ => rd_seq ok p fun ds vs S1 H1 w1 o1 m1 p1 => by
    unfold rng1 at p1
    split at p1
    · obtain ⟨hl, p1⟩ := p1.gd
      match vs, m1 with
      | _, .cons h .nil => cases h; exact ⟨_, rfl, by have := hl.1; omega, by have := hl.2; omega, p1.go o1.ex _ gives_rng⟩
    · exact p1.elim
/-- the signs of a text -/
def signs (z : Str) : List D := z.cps.toList.map fun n => .str ⟨#[n]⟩
def itemsS : D → Res (List D)
  | .str z => .ok (signs z)
  | _ => .bad
def loopF (t : D → Rho → Res Rho) (F : Rho → SR) : List D → Rho → SR
  | [], r => .nx r
  | d :: ds, r => match t d r with
    | .ok r1 => match F r1 with
      | .nx r2 => loopF t F ds r2
      | .ct r2 => loopF t F ds r2
      | .bk r2 => .nx r2
      | o => o
    | _ => .bad
def forF (its : Rho → Res (List D)) (t : D → Rho → Res Rho) (F : Rho → SR) : Rho → SR := fun r => liftS r (its r) fun ds => loopF t F ds r
theorem ds_for {iter : Expr} {body : List Stmt} {its : Rho → Res (List D)} {ks : List Nat} {t : D → Rho → Res Rho} {F : Rho → SR} (hg : Gok c G) (hp : PassesOwn (model X.prog X.w) X.A X.env X.xe) (hc : X.calm = true) (hi : PI X tg iter (iD c G its)) (ht : PG X tg (gD c G G' ks t)) (hb : PSs X body (sD c G G' G F))
    (hs : ∀ x, foldedSetIterable iter X.env x = pure x := by intro _; rfl) : PS X (.For tg iter body [] pos) (sD c L G G (forF its t F)) :=
  ps_imp (ps_for hp hc hi ht hb hs) fun E σ H ⟨S0, H0, S, r, ok, p⟩ => by
    refine ⟨S0, H0, S, r, ok, ?_⟩
    unfold forF at p
    cases hf : its r with
    | err n ns vs =>
      rw [hf] at p
      exact fun C dd S' H' fs h1 fw h2 h3 h4 => p C dd σ S' H' fs h1 (ok.fwd.trans fw) (fun g q => by rw [hg g q]; exact ok.go fw) h2 h3 h4
    | bad => rw [hf] at p; exact p.elim
    | ok ds =>
      rw [hf] at p
      intro S1 H1 w1 J ⟨Gd, Y, wk, hG, hY⟩
      have p : PostS c S0 H0 L G (loopF t F ds r) E := p
      refine for_it wk (fun i σ' H' => ∃ S' r', Ex S1 S' ∧ EnvOk c S0 H0 G S' H' σ' r' ∧ PostS c S0 H0 L G (loopF t F (ds.drop i) r') E) ⟨S1, r, Ex.refl, ok.go w1, by rw [List.drop_zero]; exact p⟩ ?_ ?_ ?_
      · rintro i σ' H' _ ⟨S', r', e1, ok', _⟩
        exact hG S' H' e1 ok'.ex ok'.fwd.h
      · rintro i x σ' H' H2 hi ⟨S', r', e1, ok', p'⟩ y
        obtain ⟨S2, d, fw, hd, hx⟩ := hY i S' H' x H2 hi e1 ok'.ex y
        have hdrop : ds.drop i = d :: ds.drop (i + 1) := by
          rw [List.drop_eq_getElem_cons hi]
          rw [List.getElem?_eq_getElem hi] at hd
          cases hd; rfl
        rw [hdrop] at p'
        unfold loopF at p'
        refine ⟨S0, H0, S2, r', d, ok'.go fw, hx, ?_⟩
        cases htt : t d r' with
        | err _ _ _ => rw [htt] at p'; exact p'.elim
        | bad => rw [htt] at p'; exact p'.elim
        | ok r1 =>
          rw [htt] at p'
          intro σ3 _ ok3
          refine ⟨S2, H0, S2, r1, ok3.rebase, ?_⟩
          dsimp only at p'
          have fin : ∀ σ4 S4 H4 r4, EnvOk c S2 H0 G S4 H4 σ4 r4 → PostS c S0 H0 L G (loopF t F (ds.drop (i + 1)) r4) E → ∃ S' r', Ex S1 S' ∧ EnvOk c S0 H0 G S' H4 σ4 r' ∧ PostS c S0 H0 L G (loopF t F (ds.drop (i + 1)) r') E := fun σ4 S4 H4 r4 e4 p4 =>
            ⟨S4, r4, (e1.trans fw.s).trans e4.fwd.s, e4.unbase ok3.fwd, p4⟩
          cases hF : F r1 with
          | nx r2 => rw [hF] at p'; exact fun σ4 S4 H4 e4 => fin σ4 S4 H4 r2 e4 p'
          | ct r2 => rw [hF] at p'; exact fun σ4 S4 H4 e4 => fin σ4 S4 H4 r2 e4 p'
          | bk r2 => rw [hF] at p'; exact fun σ4 S4 H4 e4 => p' σ4 S4 H4 (e4.unbase ok3.fwd)
          | rt d => rw [hF] at p'; exact PostS.rebase (c := c) (o := .rt d) (E := E) ok3.fwd p'
          | er r2 n ns vs => rw [hF] at p'; exact PostS.rebase (c := c) (o := .er r2 n ns vs) (E := E) ok3.fwd p'
          | bad => rw [hF] at p'; exact p'.elim
      · rintro σ' H' ⟨S', r', e1, ok', p'⟩
        rw [List.drop_length] at p'
        exact p' σ' S' H' ok'
end
end Dx
end S_DxE
section S_DxF
set_option Elab.async false
set_option linter.all false
set_option maxRecDepth 100000
set_option maxHeartbeats 2000000
namespace Dx
open PySem L2
def wipeR (r : Rho) : List Nat → Rho
  | [] => r
  | v :: vs => (wipeR r vs).set v none
theorem wipeR_len (r : Rho) : ∀ vs : List Nat, (wipeR r vs).length = r.length
  | [] => rfl
  | v :: vs => by show ((wipeR r vs).set v none).length = _; rw [List.length_set, wipeR_len r vs]
theorem wipeR_some {r : Rho} {i : Nat} {d : D} : ∀ {vs : List Nat}, (wipeR r vs)[i]? = some (some d) → r[i]? = some (some d) ∧ i ∉ vs
  | [], h => ⟨h, by simp⟩
  | v :: vs, h => by
    rcases set_some (l := wipeR r vs) h with ⟨_, e, _⟩ | ⟨ne, h⟩
    · cases e
    · obtain ⟨h1, h2⟩ := wipeR_some h
      exact ⟨h1, by simp [Ne.symm ne, h2]⟩
/-- within a comprehension nothing is raised -/
abbrev Cf.calm (c : Cf) : Cf := ⟨c.K, c.cm, fun _ _ _ _ => False, none, c.rm⟩
section
variable {X : Cx} {c : Cf} {L G G' : List Ow} {σ : St} {S0 H0 S H : Hp} {r : Rho}
theorem EnvOk.wiped (e : EnvOk c S0 H0 G S H σ r) (vs : List Nat) : EnvOk c.calm S0 H0 G S H (wipe σ vs) (wipeR r vs) := by
  refine ⟨e.fwd, by rw [wipe_length, wipeR_len, e.len], fun i d h => ?_, fun i j d d' p hi hj ki kj si sj => ?_, let ⟨A, hA⟩ := e.sto; ⟨A, hA.sub (fun a ha => (hA.out a ha).1) (fun _ _ => rfl) Ex.refl (fun i d p hi ki si => hA.own i d p (wipeR_some hi).1 ki (wipe_some si).1) fun i d ki hi => ⟨rfl, (wipeR_some hi).1, by rw [wipe_get, if_neg (wipeR_some hi).2]⟩⟩⟩
  · obtain ⟨h1, h2⟩ := wipeR_some h
    obtain ⟨v, h3, h4⟩ := e.slot i d h1
    exact ⟨v, by rw [wipe_get, if_neg h2]; exact h3, h4⟩
  · exact e.sep i j d d' p (wipeR_some hi).1 (wipeR_some hj).1 ki kj (wipe_some si).1 (wipe_some sj).1
theorem Fwd.put {S' H' : Hp} {p : Addr} {o : HO} (f : Fwd S H S' H') (n : H p = none) (ns : S' p = none) : Fwd S H S' (upd H' p o) := ⟨f.s, f.h.put n, f.sub.put ns, f.new⟩
def lcLoop (t : D → Rho → Res Rho) (tt : Rho → Res Bool) (fe : Rho → Res D) (rw : Rho) : List D → Res (List D)
  | [] => .ok []
  | d :: ds => match t d rw with
    | .ok r1 => match tt r1 with
      | .ok true => match fe r1 with
        | .ok x => match lcLoop t tt fe rw ds with
          | .ok xs => .ok (x :: xs)
          | _ => .bad
        | _ => .bad
      | .ok false => lcLoop t tt fe rw ds
      | _ => .bad
    | _ => .bad
noncomputable def dLc (its : Rho → Res (List D)) (t : D → Rho → Res Rho) (tt : Rho → Res Bool) (fe : Rho → Res D) (vs : List Nat) : Rho → Res D := fun r => (its r).bind fun ds => guard (ds.length ≤ sizeLine) (match lcLoop t tt fe (wipeR r vs) ds with
  | .ok xs => .ok (.lst xs)
  | _ => .bad)
def dYes : Rho → Res Bool := fun _ => .ok true
/-- what is walked, as long as nothing that is there changes -/
def iDl (c : Cf) (G : List Ow) (f : Rho → Res (List D)) : TI := fun σ H R => ∃ S0 H0 S r, EnvOk c S0 H0 G S H σ r ∧ PostG c σ S H (f r) fun ds S' H' => ∀ J, Gives c H' S' J ds → R J H'
theorem pi_l {tg it : Expr} {f : Rho → Res (List D)} (h : PI X tg it (iD c G f)) : PI X tg it (iDl c G f) := pi_imp h fun σ H R ⟨S0, H0, S, r, ok, p⟩ => ⟨S0, H0, S, r, ok, p.imp fun ds S' H' fw hk J gv => hk J (let ⟨Gd, Y, h1, h2, h3⟩ := gv; ⟨Gd, Y, h1, fun S'' H'' e1 e2 e3 => h2 S'' H'' e1 e2 ((ok.fwd.h.trans fw.h).trans e3), h3⟩)⟩
theorem lc_rd {its : Rho → Res (List D)} {t : D → Rho → Res Rho} {tt : Rho → Res Bool} {fe : Rho → Res D} {vs : List Nat} : ∀ σ H Q, tO c G (dLc its t tt fe vs) σ H Q →
    tLc (iDl c G its) (gD c.calm G G' vs t) (tT c.calm G' tt) (tV c.calm G' fe) vs σ H Q := fun σ H Q ⟨S0, H0, S, r, ok, p⟩ => by
  refine ⟨S0, H0, S, r, ok, p.unbind.imp fun ds S1 H1 w1 p1 J gv Dl hD => ?_⟩
  obtain ⟨hl, p1⟩ := p1.gd
  obtain ⟨Gd, Y, wk, hG, hY⟩ := gv
  have ok1 := ok.go w1
  split at p1
  · rename_i res hres
    have okw := ok1.wiped vs
    have nS : S1 Dl = none := ok1.ex.nn hD
    refine lc_it wk (fun i H' => ∃ S' acc accD rest, Fwd S1 H1 S' H' ∧ S' Dl = none ∧ H' Dl = some (.lst acc) ∧ RpA c.K c.cm S' acc accD ∧ lcLoop t tt fe (wipeR r vs) (ds.drop i) = .ok rest ∧ accD ++ rest = res ∧ accD.length ≤ i)
      ⟨S1, [], [], res, Fwd.heap ok1.ex hD, nS, upd_same, .nil, by rw [List.drop_zero]; exact hres, rfl, Nat.le_refl _⟩ ?_ ?_ ?_
    · rintro i H' _ ⟨S', acc, accD, rest, fw, _⟩
      exact hG S' H' fw.s fw.sub fw.h
    · rintro i x H' H2 hi ⟨S', acc, accD, rest, fw, n1, h1, r1, hr, ha, hn⟩ y
      obtain ⟨S2, d, fw2, hd, hx⟩ := hY i S' H' x H2 hi fw.s fw.sub y
      have hdrop : ds.drop i = d :: ds.drop (i + 1) := by
        rw [List.drop_eq_getElem_cons hi]
        rw [List.getElem?_eq_getElem hi] at hd
        cases hd; rfl
      rw [hdrop] at hr
      unfold lcLoop at hr
      refine ⟨S0, H0, S2, wipeR r vs, d, okw.go (fw.trans fw2), hx, ?_⟩
      cases ht : t d (wipeR r vs) with
      | err _ _ _ => rw [ht] at hr; cases hr
      | bad => rw [ht] at hr; cases hr
      | ok r2 =>
        rw [ht] at hr
        dsimp only at hr
        intro σ3 z3 ok3
        have hz : L2.wipe (L2.wipe σ vs) vs = L2.wipe σ vs := by
          apply List.ext_getElem?
          intro k
          rw [wipe_get, wipe_get]
          split
          · cases σ[k]? <;> rfl
          · rfl
        have keepN : ∀ S4 H4, Fwd S' H' S4 H4 → S4 Dl = none := fun S4 H4 f4 => by
          cases q : S4 Dl with
          | none => rfl
          | some u => obtain ⟨_, z⟩ := (f4.new Dl u q n1).not h1; cases z
        refine ⟨z3.trans hz, S0, H0, S2, r2, ok3, ?_⟩
        cases htt : tt r2 with
        | err _ _ _ => rw [htt] at hr; cases hr
        | bad => rw [htt] at hr; cases hr
        | ok b =>
          rw [htt] at hr
          intro S4 H4 w4 b' hb
          cases hb
          have f4 := fw2.trans w4
          cases b with
          | false =>
            dsimp only at hr
            rw [if_neg (by decide)]
            exact ⟨S4, acc, accD, rest, fw.trans f4, keepN S4 H4 f4, f4.h _ _ h1, r1.mono f4.s, hr, ha, Nat.le_succ_of_le hn⟩
          | true =>
            dsimp only at hr
            rw [if_pos rfl]
            refine ⟨S0, H0, S4, r2, ok3.go w4, ?_⟩
            cases hfe : fe r2 with
            | err _ _ _ => rw [hfe] at hr; cases hr
            | bad => rw [hfe] at hr; cases hr
            | ok x2 =>
              rw [hfe] at hr
              dsimp only at hr
              cases hlc : lcLoop t tt fe (wipeR r vs) (ds.drop (i + 1)) with
              | err _ _ _ => rw [hlc] at hr; cases hr
              | bad => rw [hlc] at hr; cases hr
              | ok xs2 =>
                rw [hlc] at hr
                cases hr
                intro S5 H5 w5 y5 hy5
                have f5 := f4.trans w5
                refine ⟨acc, f5.h _ _ h1, ?_, S5, acc ++ [y5], accD ++ [x2], xs2, (fw.trans f5).put hD (keepN S5 H5 f5), keepN S5 H5 f5, upd_same, (r1.mono f5.s).app (.one hy5), rfl, ?_, ?_⟩
                · rw [r1.length]; omega
                · rw [← ha, List.append_assoc]; rfl
                · simp; omega
    · rintro H' ⟨S', acc, accD, rest, fw, n1, h1, r1, hr, ha, hn⟩
      rw [List.drop_length] at hr
      cases hr
      rw [List.append_nil] at ha
      subst ha
      exact p1 S' H' fw _ ⟨Dl, .lst acc, rfl, w1.h.nn hD, n1, h1, .lst r1⟩
  · exact p1.elim
theorem de_lc {elt tg iter : Expr} {ifs : List Expr} {scope : Scope} {own : List (Str × Nat)} {pos : Pos} {its : Rho → Res (List D)} {t : D → Rho → Res Rho} {tt : Rho → Res Bool} {fe : Rho → Res D} (hc : X.calm = true) (hN : X.N.Nodup) (hi : PI X tg iter (iD c G its)) (ok : BlkOk X.N X.env.scope scope own)
    (hg : ∀ (s : Shared) (H : Hp) (C : Addr) (cl : List (Str × Addr)) (fp : List Addr), PG (X.blk s H scope (compEnvC scope cl C X.env) fp) tg (gD c.calm G G' (own.map (·.2)) t)) (ht : ∀ (s : Shared) (H : Hp) (C : Addr) (cl : List (Str × Addr)) (fp : List Addr), PTs (X.blk s H scope (compEnvC scope cl C X.env) fp) ifs (tT c.calm G' tt))
    (he : ∀ (s : Shared) (H : Hp) (C : Addr) (cl : List (Str × Addr)) (fp : List Addr), PE (X.blk s H scope (compEnvC scope cl C X.env) fp) elt (tV c.calm G' fe)) (hs : ∀ x, foldedSetIterable iter X.env x = pure x := by intro _; rfl) :
    PE X (.ListComp elt [⟨tg, iter, ifs, 0⟩] scope pos) (tO c G (dLc its t tt fe (own.map (·.2)))) := pe_imp (pe_lc hc hN (pi_l hi) ok hg ht he hs) lc_rd
theorem dt_nil : PTs X [] (tT c G dYes) := ⟨fun pins s σ H Q I ⟨S0, H0, S, r, ok, p⟩ => pts_nil.run pins s σ H Q I (p.go ok.ex _ rfl)⟩
def whileN (t : Rho → Res Bool) (F : Rho → SR) : Nat → Rho → SR
  | 0, _ => .bad
  | n + 1, r => liftS r (t r) fun b => if b = true then (match F r with
    | .nx r' => whileN t F n r'
    | .ct r' => whileN t F n r'
    | .bk r' => .nx r'
    | o => o) else .nx r
theorem ds_while {cnd : Expr} {body : List Stmt} {pos : Pos} {t : Rho → Res Bool} {F : Rho → SR} (n : Nat) (hg : Gok c G) (hp : PassesOwn (model X.prog X.w) X.A X.env X.xe) (hc : PT X cnd (tT c G t)) (hb : PSs X body (sD c G G G F)) :
    PS X (.While cnd body [] pos) (sD c L G G (whileN t F n)) := ps_imp (ps_while hp hc hb) fun E σ H ⟨S0, H0, S, r, ok, p⟩ => by
  refine ⟨fun m σ' H' => ∃ S' r', EnvOk c S0 H0 G S' H' σ' r' ∧ PostS c S0 H0 L G (whileN t F m r') E, ⟨n, S, r, ok, p⟩, ?_⟩
  rintro m σ1 H1 ⟨S1, r1, ok1, p1⟩
  cases m with
  | zero => exact p1.elim
  | succ m =>
    refine st_seq hg ok1 p1 fun b v S2 H2 w2 o2 m2 p2 => ?_
    rw [show v = b from m2]
    cases b with
    | false => exact p2 σ1 S2 H2 o2
    | true =>
      have p2 : PostS c S0 H0 L G (match F r1 with
        | .nx r' => whileN t F m r'
        | .ct r' => whileN t F m r'
        | .bk r' => .nx r'
        | o => o) E := p2
      rw [if_pos rfl]
      refine ⟨fun σ3 H3 => ∃ S3 r3, EnvOk c S0 H0 G S3 H3 σ3 r3 ∧ PostS c S0 H0 L G (whileN t F m r3) E, fun σ3 H3 h => ⟨m, Nat.lt_succ_self m, h⟩, S0, H0, S2, r1, o2, ?_⟩
      cases hF : F r1 with
      | nx r2 => rw [hF] at p2; exact fun σ4 S4 H4 e4 => ⟨S4, r2, e4, p2⟩
      | ct r2 => rw [hF] at p2; exact fun σ4 S4 H4 e4 => ⟨S4, r2, e4, p2⟩
      | bk r2 => rw [hF] at p2; exact fun σ4 S4 H4 e4 => p2 σ4 S4 H4 e4
      | rt d => rw [hF] at p2; exact p2
      | er r2 n ns vs => rw [hF] at p2; exact p2
      | bad => rw [hF] at p2; exact p2.elim
end
/-- the mode of its result: own, or a value -/
def mR (c : Cf) (rm : Bool) : Md V D := if rm then mO c else mV c
instance {c : Cf} {rm : Bool} : Anti (mR c rm) := by
  cases rm with
  | true => exact (inferInstance : Anti (mO c))
  | false => exact (inferInstance : Anti (mV c))
/-- F by data; ms the arguments' modes; rm whether the result is a new object that nothing else holds -/
def spD (K : PySem.W.Frag) (cm : CM) (ms : List Bool) (rm : Bool) (F : List D → Res D) : Sp := fun vs H Q E => ∃ S ds, Ex S H ∧ RpM ⟨K, cm, fun _ _ _ _ => False, none, rm⟩ S H ms vs ds ∧
  PostG ⟨K, cm, fun cls d _ H => E cls d H, none, rm⟩ [] S H (F ds) fun a S' H' => ∀ b, mR ⟨K, cm, fun _ _ _ _ => False, none, rm⟩ rm H S' H' b a → Q b H'
section
variable {X : Cx} {c : Cf} {L G G' : List Ow} {k : Nat} {f : Addr} {fd : FuncData} {ps : List Str} {x : Str} {p pos : Pos} {e : Expr} {es : List Expr} {fs : Rho → Res (List D)} {ms : List Bool} {rm : Bool} {F : List D → Res D}
theorem RpM.cf {c c' : Cf} {S H : Hp} (hK : c.K = c'.K) (hm : c.cm = c'.cm) : ∀ {ms : List Bool} {vs : List V} {ds : List D}, RpM c S H ms vs ds → RpM c' S H ms vs ds
  | [], [], [], _ => trivial
  | true :: ms, v :: vs, d :: ds, h => ⟨by rw [← hK, ← hm]; exact h.1, RpM.cf hK hm h.2⟩
  | false :: ms, v :: vs, d :: ds, h => ⟨by rw [← hK, ← hm]; exact h.1, RpM.cf hK hm h.2⟩
  | [], _ :: _, _, h => h.elim
  | [], [], _ :: _, h => h.elim
  | true :: _, [], _, h => h.elim
  | true :: _, _ :: _, [], h => h.elim
  | false :: _, [], _, h => h.elim
  | false :: _, _ :: _, [], h => h.elim
theorem call_rd {E : XK} {σ : St} {S H : Hp} {vs : List V} {ds : List D} {Q : VK} (hE : ∀ cls d H, c.W cls d σ H → E cls d H) (ex : Ex S H) (m : RpM c S H ms vs ds)
    (q : PostG c σ S H (F ds) fun a S' H' => ∀ b, mR c rm H S' H' b a → Q b H') : spD c.K c.cm ms rm F vs H Q E := by
  refine ⟨S, ds, ex, RpM.cf (c := c) (c' := ⟨c.K, c.cm, fun _ _ _ _ => False, none, rm⟩) rfl rfl m, ?_⟩
  cases hF : F ds with
  | ok a =>
    rw [hF] at q
    intro S' H' w b hb
    refine q S' H' w b ?_
    cases rm with
    | true => exact hb
    | false => exact hb
  | err n ns vs => rw [hF] at q; exact fun C dd S' H' fs h1 w h2 h3 h4 => hE _ _ _ (q C dd S' H' fs h1 w h2 h3 h4)
  | bad => rw [hF] at q; exact q.elim
/-- f(e, ..), f a def of the text -/
theorem de_call (F1 : FnOk X.prog X.w X.K X.mg X.base (L2.CX X.prog X.w) k f fd ps (spD c.K c.cm ms rm F)) (tk : Takes X c.W) (hr : Room k X.A) (hg : Gl X x) (hm : X.mg x = some (.ref f)) (hk : PySem.W.keepIn X.K (.ref f) = true) (hb : Binds X.K fd ps [])
    (ha : PA X (e :: es) (tM c G ms fs)) (hdb : (x == ("__debug__" : Str)) = false := by decide) (he : starEach (e :: es) X.env = (false, eval e X.env) :: starEach es X.env := by rfl) (hpl : (backTo pos (starEach es X.env)).any (·.1) = false := by rfl) :
    PE X (.Call (.Name x p) (e :: es) [] pos) (rd c G (dCall F fs) (mR c rm)) :=
  pe_imp (pe_callSD (E := fun σ cls d H => c.W cls d σ H) F1 hr hg hm hk hb .nil (fun σ => passAt tk σ) ha hdb he hpl) fun σ H Q ⟨S0, H0, S, r, ok, q⟩ => rd_seq ok q fun ds vs S1 H1 w1 o1 m1 p1 => by
    rw [List.append_nil]
    exact call_rd (fun _ _ _ h => h) o1.ex m1 (p1.anti w1.h)
theorem de_callV (F1 : FnOk X.prog X.w X.K X.mg X.base (L2.CX X.prog X.w) k f fd ps (spD c.K c.cm ms false F)) (tk : Takes X c.W) (hr : Room k X.A) (hg : Gl X x) (hm : X.mg x = some (.ref f)) (hk : PySem.W.keepIn X.K (.ref f) = true) (hb : Binds X.K fd ps [])
    (ha : PA X (e :: es) (tM c G ms fs)) (hdb : (x == ("__debug__" : Str)) = false := by decide) (he : starEach (e :: es) X.env = (false, eval e X.env) :: starEach es X.env := by rfl) (hpl : (backTo pos (starEach es X.env)).any (·.1) = false := by rfl) :
    PE X (.Call (.Name x p) (e :: es) [] pos) (tV c G (dCall F fs)) := de_call F1 tk hr hg hm hk hb ha hdb he hpl
def startR (n : Nat) (ds : List D) : Rho := ds.map some ++ List.replicate (n - ds.length) none
def G0 (ms : List Bool) (n : Nat) : List Ow := ms.map (fun m => if m then .b else .v) ++ List.replicate (n - ms.length) .v
def runF (n : Nat) (rm : Bool) (Fb : Rho → SR) (ds : List D) : Res D := match Fb (startR n ds) with
  | .rt d => .ok d
  | .nx _ => if rm then .bad else .ok .non
  | .er _ n ns vs => .err n ns vs
  | _ => .bad
theorem RpM.get {S H : Hp} : ∀ {ms : List Bool} {vs : List V} {ds : List D} {i : Nat} {d : D}, RpM c S H ms vs ds → ds[i]? = some d → ∃ v m, vs[i]? = some v ∧ ms[i]? = some m ∧ SlotOk c H S H (if m then .b else .v) v d
  | [], [], [], _, _, _, h => by simp at h
  | true :: ms, v :: vs, d :: ds, 0, e, h, q => by simp at q; subst q; exact ⟨v, true, by simp, by simp, h.1⟩
  | false :: ms, v :: vs, d :: ds, 0, e, h, q => by simp at q; subst q; exact ⟨v, false, by simp, by simp, h.1⟩
  | true :: ms, v :: vs, d :: ds, i + 1, e, h, q => by
    obtain ⟨v, m, h1, h2, h3⟩ := RpM.get (i := i) h.2 (by simpa using q)
    exact ⟨v, m, by simpa using h1, by simpa using h2, h3⟩
  | false :: ms, v :: vs, d :: ds, i + 1, e, h, q => by
    obtain ⟨v, m, h1, h2, h3⟩ := RpM.get (i := i) h.2 (by simpa using q)
    exact ⟨v, m, by simpa using h1, by simpa using h2, h3⟩
  | [], _ :: _, _, _, _, h, _ => h.elim
  | [], [], _ :: _, _, _, h, _ => h.elim
  | true :: _, [], _, _, _, h, _ => h.elim
  | true :: _, _ :: _, [], _, _, h, _ => h.elim
  | false :: _, [], _, _, _, h, _ => h.elim
  | false :: _, _ :: _, [], _, _, h, _ => h.elim
theorem RpM.len {S H : Hp} : ∀ {ms : List Bool} {vs : List V} {ds : List D}, RpM c S H ms vs ds → vs.length = ms.length ∧ ds.length = ms.length
  | [], [], [], _ => ⟨rfl, rfl⟩
  | true :: ms, v :: vs, d :: ds, h => by have := RpM.len h.2; simp [this.1, this.2]
  | false :: ms, v :: vs, d :: ds, h => by have := RpM.len h.2; simp [this.1, this.2]
  | [], _ :: _, _, h => h.elim
  | [], [], _ :: _, h => h.elim
  | true :: _, [], _, h => h.elim
  | true :: _, _ :: _, [], h => h.elim
  | false :: _, [], _, h => h.elim
  | false :: _, _ :: _, [], h => h.elim
theorem kd_G0 {ms : List Bool} {n i : Nat} : ¬ isO (kd (G0 ms n) i) := by
  unfold kd G0
  rw [List.getD_eq_getElem?_getD, List.getElem?_append]
  split
  · rw [List.getElem?_map]
    cases ms[i]? with
    | none => intro h; cases h
    | some m => cases m <;> (intro h; cases h)
  · rw [List.getElem?_replicate]
    split <;> (intro h; cases h)
theorem kd_G0_sw {ms : List Bool} {n i : Nat} : (∀ P, kd (G0 ms n) i ≠ .s P) ∧ kd (G0 ms n) i ≠ .w := by
  unfold kd G0
  rw [List.getD_eq_getElem?_getD, List.getElem?_append]
  split
  · rw [List.getElem?_map]
    cases ms[i]? with
    | none => exact ⟨fun _ h => (by cases h), fun h => (by cases h)⟩
    | some m => cases m <;> exact ⟨fun _ h => (by cases h), fun h => (by cases h)⟩
  · rw [List.getElem?_replicate]
    split <;> exact ⟨fun _ h => (by cases h), fun h => (by cases h)⟩
theorem kd_G0_at {ms : List Bool} {n i : Nat} {m : Bool} (h : ms[i]? = some m) : kd (G0 ms n) i = if m then .b else .v := by
  unfold kd G0
  have hl : i < ms.length := (List.getElem?_eq_some_iff.mp h).1
  rw [List.getD_eq_getElem?_getD, List.getElem?_append, if_pos (by simpa using hl), List.getElem?_map, h]
  rfl
theorem startR_some {n i : Nat} {ds : List D} {d : D} (h : (startR n ds)[i]? = some (some d)) : ds[i]? = some d := by
  unfold startR at h
  rw [List.getElem?_append] at h
  split at h
  · rw [List.getElem?_map] at h
    cases q : ds[i]? with
    | none => rw [q] at h; cases h
    | some e => rw [q] at h; cases h; rfl
  · rw [List.getElem?_replicate] at h
    split at h <;> cases h
theorem env_start {N : List Str} {S H : Hp} {vs : List V} {ds : List D} (ex : Ex S H) (m : RpM c S H ms vs ds) (hn : ms.length ≤ N.length) : EnvOk c S H (G0 ms N.length) S H (L2.start N vs) (startR N.length ds) := by
  have hl := m.len
  refine ⟨Fwd.refl ex, by unfold L2.start startR; simp [hl.1, hl.2], fun i d h => ?_, fun i j d e p _ _ k _ _ _ => absurd k kd_G0, ⟨[], .nil fun _ _ _ => kd_G0_sw⟩⟩
  have hd := startR_some h
  obtain ⟨v, mm, h1, h2, h3⟩ := m.get hd
  refine ⟨v, ?_, by rw [kd_G0_at h2]; exact h3⟩
  unfold L2.start
  have hlt : i < vs.length := (List.getElem?_eq_some_iff.mp h1).1
  rw [List.getElem?_append, if_pos (by simpa using hlt), List.getElem?_map, h1]
  rfl
end
section
variable {P : Program} {w : World} {K : PySem.W.Frag} {mg : Str → Option Value} {base : Heap} {cm : CM}
abbrev cfE (K : PySem.W.Frag) (cm : CM) (rm : Bool) (E : XK) : Cf := ⟨K, cm, fun cls d _ H => E cls d H, none, rm⟩
/-- THE RULE for a def: its body by data -/
theorem dok {x qual : Str} {st : Stmt} {f : Addr} {fd : FuncData} {N ps : List Str} {k : Nat} {ms : List Bool} {rm : Bool} {G' : List Ow} {Fb : Rho → SR} (F : Fun K x qual st f fd) (S : FnScope N ps (defScope st)) (hm : ms.length = ps.length) (hn : ps.length ≤ N.length)
    (hb : ∀ (cdv : Value) (A : Around) (outer : List Env) (s : Shared) (H : Hp) (E : XK), Room k (A.deeper (PyProof.Rows.envOfC qual (defScope st) s.heap.objs.size f cdv)) →
      PSs (cxOf (L2.CX P w) P w K mg base N qual (defScope st) f cdv A outer s H E) (defBody st) (sD (cfE K cm rm E) [] (G0 ms N.length) G' Fb)) :
    FnOk P w K mg base (L2.CX P w) (k + 1) f fd ps (spD K cm ms rm (runF N.length rm Fb)) := by
  refine F.okX S (fun vs H Q E h => ?_) (fun cdv A outer s H vs Q E hr h => ?_)
  · obtain ⟨S, ds, _, m, _⟩ := h
    rw [m.len.1, hm]
  · obtain ⟨S, ds, ex, m, q⟩ := h
    refine ⟨_, hb cdv A outer s H E hr, S, H, S, startR N.length ds, env_start ex (RpM.cf (c := ⟨K, cm, fun _ _ _ _ => False, none, rm⟩) (c' := cfE K cm rm E) rfl rfl m) (by omega), ?_⟩
    unfold runF at q
    cases hF : Fb (startR N.length ds) with
    | rt d =>
      rw [hF] at q
      show PostS _ _ _ _ _ (.rt d) _
      unfold PostS
      dsimp only
      cases rm with
      | true => exact fun p ho S' H' fw n ns hp hh => q S' H' fw _ ⟨p, ho, rfl, n, ns, hp, hh⟩
      | false => exact fun v S' H' fw hv => q S' H' fw v hv
    | nx r =>
      rw [hF] at q
      cases rm with
      | true => exact q.elim
      | false => exact fun σ' S' H' ok => q S' H' ok.fwd _ Rp.non
    | er r n ns vs =>
      rw [hF] at q
      exact fun C dd σ' S' H' fs h1 fw _ h2 h3 h4 => q C dd S' H' fs h1 fw h2 h3 h4
    | bk r => rw [hF] at q; exact q.elim
    | ct r => rw [hF] at q; exact q.elim
    | bad => rw [hF] at q; exact q.elim
end
end Dx
end S_DxF
section S_DxG
set_option Elab.async false
set_option linter.all false
set_option maxRecDepth 100000
set_option maxHeartbeats 2000000
namespace Dx
open PySem L2
section
variable {X : Cx} {c : Cf} {L G G' : List Ow}
def spX1 (K : PySem.W.Frag) (C : Addr) (f : Str) : Sp := fun vs H Q _ => ∃ (a : Addr) (w : V), vs = [.ref a, w] ∧ OexC K C ∧ PySem.W.findIn K (.ref C) f = some none ∧ H a = some (exo a C none) ∧
  ∀ d, H d = none → d ≠ a → Q .non (upd (upd H d (exd d [(f, w)])) a (exo a C (some d)))
theorem xinit1 {P : Program} {w : World} {K : PySem.W.Frag} {mg : Str → Option Value} {base : Heap} {qual : Str} {st : Stmt} {fI C : Addr} {fd : FuncData} {N ps : List Str} {fl : Str} (F : Fun K "__init__" qual st fI fd) (S : FnScope N ps (defScope st)) (hl : ps.length = 2) (hN : N.length = 2)
    (hb : ∀ (cdv : Value) (A : Around) (outer : List Env) (s : Shared) (H : Hp) (E : XK), PSs (cxOf (L2.CX P w) P w K mg base N qual (defScope st) fI cdv A outer s H E) (defBody st) (tOst K fl (tVar 0) (tVar 1))) :
    FnOk P w K mg base (L2.CX P w) 1 fI fd ps (spX1 K C fl) := by
  refine F.okX (k := 0) S (fun vs H Q E h => ?_) (fun cdv A outer s H vs Q E hr h => ?_)
  · obtain ⟨a, w, rfl, _⟩ := h; exact hl.symm
  · obtain ⟨a, w', rfl, T, hno, ha, q⟩ := h
    refine ⟨_, hb cdv A outer s H E, ?_⟩
    have e : L2.start N [.ref a, w'] = [some (.ref a), some w'] := by unfold L2.start; rw [hN]; rfl
    rw [e]
    exact ⟨w', rfl, .ref a, rfl, a, C, rfl, T, hno, .inl ⟨ha, q⟩⟩
def raiF (n : Str) (ns : List Str) (rev : Bool) (fs : Rho → Res (List D)) : Rho → SR := fun r => liftS r (fs r) fun ds => if ds.length = ns.length then .er r n ns (if rev then ds.reverse else ds) else .bad
variable {e e2 : Expr} {fs : Rho → Res (List D)} {x n : Str} {C fI : Addr} {fd : FuncData} {ps : List Str} {p p' pos : Pos} {fl gl : Str}
theorem heap_x1 {H1 : Hp} {a d C : Addr} {o1 o2 o3 o4 o : HO} (ha : H1 a = none) (hne : d ≠ a) : upd (del (upd (upd (upd H1 a o1) d o2) a o3) a) d o = upd H1 d o := by
  funext b
  by_cases hb : b = d
  · subst hb; rw [upd_same, upd_same]
  · rw [upd_ne hb, upd_ne hb]
    by_cases hba : b = a
    · subst hba; rw [del_same, ha]
    · rw [del_ne hba, upd_ne hba, upd_ne hb, upd_ne hba]
theorem ds_raise1 (hg : Gok c G) (hcn : c.cm n = some C) (hc : X.calm = true) (tk : Takes X c.W) (T : OexC X.K C) (iC : PySem.W.findIn X.K (.ref C) "__init__" = some (some (.ref fI))) (tI : PySem.W.typeIn X.K (.ref fI) = some (.type "function")) (hno : PySem.W.findIn X.K (.ref C) fl = some none)
    (F1 : FnOk X.prog X.w X.K X.mg X.base (L2.CX X.prog X.w) 1 fI fd ps (spX1 X.K C fl)) (hr : Room 2 X.A) (hb : Binds X.K fd ps []) (hgx : Gl X x) (hm : X.mg x = some (.ref C)) (ha : PA X [e] (tAs c G fs))
    (hdb : (x == ("__debug__" : Str)) = false := by decide) (he : starEach [e] X.env = (false, eval e X.env) :: starEach [] X.env := by rfl) :
    PS X (.Raise (some (.Call (.Name x p) [e] [] p')) none pos) (sD c L G G' (raiF n [fl] false fs)) :=
  ps_imp (ps_raise hc tk (pmk_oex T iC tI F1 hr hb .nil passL hgx hm ha hdb he rfl)) fun E σ H ⟨S0, H0, S, r, ok, q⟩ => st_seq hg ok q fun ds vs S1 H1 w1 o1 m1 p1 => by
    obtain ⟨hl, p1⟩ := p1.ite
    match ds, vs, m1, hl with
    | [d1], [v1], .cons hv .nil, _ =>
      refine ⟨by show 1 ≤ 1000; decide, fun a na => ⟨a, v1, rfl, T, hno, upd_same, fun d hd hne => ⟨rfl, d, [(fl, v1)], upd_same, by rw [upd_ne hne, upd_same], by rw [upd_ne hne] at hd; exact hd, ?_⟩⟩⟩
      rw [upd_ne hne] at hd
      rw [heap_x1 (C := C) (o4 := .lst []) na hne]
      exact p1 C d σ (upd S1 d (.xd [(fl, v1)])) _ [(fl, v1)] hcn (o1.fwd.trans (Fwd.both o1.ex hd)) (fun g hgg => by rw [hg g hgg]; exact o1.go (Fwd.both o1.ex hd)) upd_same rfl (.cons (hv.mono (Ex.new (o1.ex.nn hd))) .nil)
def unsetS (i : Nat) : SR → SR
  | .nx r => .nx (r.set i none)
  | .bk r => .bk (r.set i none)
  | .ct r => .ct (r.set i none)
  | .er _ _ _ _ => .bad
  | o => o
def tryF (isM : Str → Option Bool) (i : Nat) (Fb Fs : Rho → SR) : Rho → SR := fun r => match Fb r with
  | .er r' n ns vs => match isM n with
    | some true => unsetS i (Fs (r'.set i (some (.obj n ns vs))))
    | some false => .er r' n ns vs
    | none => .bad
  | o => o
theorem EnvOk.unset {S0 H0 S H : Hp} {σ : St} {r : Rho} (e : EnvOk c S0 H0 G S H σ r) (i : Nat) : EnvOk c S0 H0 (G.set i .v) S H (σ.set i none) (r.set i none) := by
  refine ⟨e.fwd, by simp [e.len], fun j d h => ?_, fun j k d d' p hj hk kj kk sj sk => ?_, let ⟨A, hA⟩ := e.sto; ⟨A, hA.sub (fun a ha => (hA.out a ha).1) (fun _ _ => rfl) Ex.refl (fun j d p hj kj sj => ?_) fun j d kj hj => ?_⟩⟩
  · rcases set_some h with ⟨_, z, _⟩ | ⟨ne, h⟩
    · cases z
    · obtain ⟨v, h1, h2⟩ := e.slot j d h
      exact ⟨v, by rw [List.getElem?_set_ne ne]; exact h1, by rw [kd_set_ne ne]; exact h2⟩
  · rcases set_some hj with ⟨_, z, _⟩ | ⟨nj, hj⟩
    · cases z
    · rcases set_some hk with ⟨_, z, _⟩ | ⟨nk, hk⟩
      · cases z
      · rw [kd_set_ne nj] at kj
        rw [kd_set_ne nk] at kk
        rw [List.getElem?_set_ne nj] at sj
        rw [List.getElem?_set_ne nk] at sk
        exact e.sep j k d d' p hj hk kj kk sj sk
  · rcases set_some hj with ⟨_, z, _⟩ | ⟨nj, hj⟩
    · cases z
    · rw [kd_set_ne nj] at kj
      rw [List.getElem?_set_ne nj] at sj
      exact hA.own j d p hj kj sj
  · rcases set_some hj with ⟨_, z, _⟩ | ⟨nj, hj⟩
    · cases z
    · rw [kd_set_ne nj, List.getElem?_set_ne nj]
      exact ⟨rfl, hj, rfl⟩
/-- the slot of a caught exception -/
theorem EnvOk.setX {c' : Cf} {S0 H0 S H : Hp} {σ : St} {r : Rho} {a C dd : Addr} {n : Str} {ns : List Str} {vs : List D} {fs : List (Str × V)} (e : EnvOk c S0 H0 G S H σ r) (hK : c'.K = c.K) (hcm : c'.cm = c.cm) (i : Nat) (hi : i < G.length) (h1 : c.cm n = some C) (h2 : S dd = some (.xd fs)) (h3 : ns = fs.map (·.1)) (h4 : RpA c.K c.cm S (fs.map (·.2)) vs) :
    EnvOk c' S0 H0 (G.set i (.x a C dd)) S H (σ.set i (some (.ref a))) (r.set i (some (.obj n ns vs))) := by
  have sl : ∀ k v d, SlotOk c H0 S H k v d → SlotOk c' H0 S H k v d := fun k v d h => by
    cases k with
    | v => unfold SlotOk at h ⊢; rw [hK, hcm]; exact h
    | o => unfold SlotOk at h ⊢; rw [hK, hcm]; exact h
    | b => unfold SlotOk at h ⊢; rw [hK, hcm]; exact h
    | s P => exact h
    | w => exact h
    | x a C dd => unfold SlotOk at h ⊢; rw [hK, hcm]; exact h
    | i a => unfold SlotOk at h ⊢; rw [hK, hcm]; exact h
  have sto' : ∃ A, StoOk c'.K c'.cm H0 (G.set i (.x a C dd)) S H (σ.set i (some (.ref a))) (r.set i (some (.obj n ns vs))) A := by
    obtain ⟨A, hA⟩ := e.sto
    rw [hK, hcm]
    refine ⟨A, hA.sub (fun a ha => (hA.out a ha).1) (fun _ _ => rfl) Ex.refl (fun j d p hj kj sj => ?_) fun j d kj hj => ?_⟩
    · have nj : i ≠ j := fun z => by subst z; rw [kd_set_o hi] at kj; cases kj
      rw [List.getElem?_set_ne nj] at hj sj
      rw [kd_set_ne nj] at kj
      exact hA.own j d p hj kj sj
    · have nj : i ≠ j := fun z => by subst z; rw [kd_set_o hi] at kj; rcases kj with ⟨_, kj⟩ | kj <;> cases kj
      rw [List.getElem?_set_ne nj] at hj
      rw [kd_set_ne nj, List.getElem?_set_ne nj]
      exact ⟨rfl, hj, rfl⟩
  refine ⟨e.fwd, by simp [e.len], fun j d h => ?_, fun j k d d' p hj hk kj kk sj sk => ?_, sto'⟩
  · rcases set_some h with ⟨rfl, z, hl⟩ | ⟨ne, h⟩
    · cases z
      refine ⟨.ref a, by rw [List.getElem?_set_self (by rw [e.len]; exact hl)], ?_⟩
      rw [kd_set_o hi]
      exact ⟨rfl, n, ns, vs, fs, rfl, by rw [hcm]; exact h1, h2, h3, by rw [hK, hcm]; exact h4⟩
    · obtain ⟨v, q1, q2⟩ := e.slot j d h
      exact ⟨v, by rw [List.getElem?_set_ne ne]; exact q1, by rw [kd_set_ne ne]; exact sl _ _ _ q2⟩
  · have nj : i ≠ j := fun z => by subst z; rw [kd_set_o hi] at kj; cases kj
    have nk : i ≠ k := fun z => by subst z; rw [kd_set_o hi] at kk; cases kk
    rw [List.getElem?_set_ne nj] at hj sj
    rw [List.getElem?_set_ne nk] at hk sk
    rw [kd_set_ne nj] at kj
    rw [kd_set_ne nk] at kk
    exact e.sep j k d d' p hj hk kj kk sj sk
/-- the kinds told ahead; what they are is the same whatever the wishes -/
theorem EnvOk.cf {c' : Cf} {S0 H0 S H : Hp} {σ : St} {r : Rho} (e : EnvOk c S0 H0 G S H σ r) (hK : c'.K = c.K) (hcm : c'.cm = c.cm) : EnvOk c' S0 H0 G S H σ r := by
  refine ⟨e.fwd, e.len, fun j d h => ?_, e.sep, by rw [hK, hcm]; exact e.sto⟩
  obtain ⟨v, q1, q2⟩ := e.slot j d h
  refine ⟨v, q1, ?_⟩
  cases kj : kd G j with
  | v => rw [kj] at q2; unfold SlotOk at q2 ⊢; rw [hK, hcm]; exact q2
  | o => rw [kj] at q2; unfold SlotOk at q2 ⊢; rw [hK, hcm]; exact q2
  | b => rw [kj] at q2; unfold SlotOk at q2 ⊢; rw [hK, hcm]; exact q2
  | s P => rw [kj] at q2; exact q2
  | w => rw [kj] at q2; exact q2
  | x a C dd => rw [kj] at q2; unfold SlotOk at q2 ⊢; rw [hK, hcm]; exact q2
  | i a => rw [kj] at q2; unfold SlotOk at q2 ⊢; rw [hK, hcm]; exact q2
abbrev Cf.try (c : Cf) (W : WX) (G : List Ow) : Cf := ⟨c.K, c.cm, W, some G, c.rm⟩
theorem ds_try {nm xn : Str} {cv : Value} {i : Nat} {body suite : List Stmt} {b0 : Stmt} {np p1 : Pos} {isM : Str → Option Bool} {Fb Fs : Rho → SR} {Gs : List Ow} (hge : Gok c G) (hs : X.stack = X.env :: X.outer) (hf : X.env.frame = some X.env.locals) (hN : X.N.Nodup) (hi : X.N[i]? = some nm) (hln : X.env.kindOf nm = some .local) (hc : Names X xn cv) (tk : Takes X c.W)
    (hG : i < G.length) (hM : ∀ n C b, c.cm n = some C → isM n = some b → PySem.W.exmOne X.K (.ref C) cv = some b)
    (hb : ∀ (W : WX) (pn : List (Addr × Obj)) (xe : Value → Shared → Prop), Takes (X.tr pn xe) W → PassesOwn (model X.prog X.w) X.A X.env xe → PSs (X.tr pn xe) body (sD (c.try W G) L G G' Fb))
    (hsu : ∀ (a C dd : Addr) (oe : Obj) (pn : List (Addr × Obj)), (∃ n, c.cm n = some C ∧ isM n = some true) → Zc (.ref C) (some dd) oe → (∃ vs, oe.data = .fields vs) → PSs (X.suite a ((a, oe) :: pn)) (b0 :: suite) (sD c.calm (L.set i (.x a C dd)) (G.set i (.x a C dd)) (Gs.set i (.x a C dd)) Fs))
    (hGs : Gs.set i .v = G') (hL : L.set i .v = L) :
    PS X (.Try body [.ExceptHandler (some (.Name xn np)) (some nm) (b0 :: suite) p1] [] [] pos) (sD c L G G' (tryF isM i Fb Fs)) := by
  refine ps_imp (ps_try_as (tb := fun W => sD (c.try W G) L G G' Fb) (ts := fun a cls d => fun E σ H => ∃ C dd, cls = .ref C ∧ d = some dd ∧ (∃ n, c.cm n = some C ∧ isM n = some true) ∧ sD c.calm (L.set i (.x a C dd)) (G.set i (.x a C dd)) (Gs.set i (.x a C dd)) Fs E σ H) hs hf hN hi hln hc tk hb ?_) ?_
  · intro a oe cls d pn hz hff
    refine ⟨fun pins s σ H E I ⟨C, dd, hC, hd, hin, q⟩ => ?_⟩
    subst hC hd
    exact (hsu a C dd oe pn hin hz hff).run pins s σ H E I q
  · rintro E σ H ⟨S0, H0, S, r, ok, p⟩
    refine ⟨S0, H0, S, r, ok.cf rfl rfl, ?_⟩
    unfold tryF at p
    cases hF : Fb r with
    | nx r' => rw [hF] at p; exact fun σ' S' H' e => p σ' S' H' (e.cf rfl rfl)
    | rt d => rw [hF] at p; exact p
    | bk r' => rw [hF] at p; exact fun σ' S' H' e => p σ' S' H' (e.cf rfl rfl)
    | ct r' => rw [hF] at p; exact fun σ' S' H' e => p σ' S' H' (e.cf rfl rfl)
    | bad => rw [hF] at p; exact p.elim
    | er r' n ns vs =>
      rw [hF] at p
      intro C dd σ' S' H' fs h1 fw h2 h3 h4 h5
      have e1 : EnvOk (c.try _ G) S0 H0 G S' H' σ' r' := h2 G rfl
      dsimp only at p
      cases hI : isM n with
      | none => rw [hI] at p; exact p.elim
      | some b =>
        rw [hI] at p
        refine ⟨b, hM n C b h1 hI, fun hb1 a ha => ?_, fun hb0 => ?_⟩
        · subst hb1
          refine ⟨C, dd, rfl, rfl, ⟨n, h1, hI⟩, S0, H0, S', _, e1.setX (c' := c.calm) (a := a) rfl rfl i hG h1 h3 h4 h5, ?_⟩
          have p : PostS c S0 H0 L G' (unsetS i (Fs (r'.set i (some (.obj n ns vs))))) E := p
          cases hS : Fs (r'.set i (some (.obj n ns vs))) with
          | nx r2 =>
            rw [hS] at p
            intro σ2 S2 H2 e2
            have := (EnvOk.cf (c' := c) e2 rfl rfl).unset i
            rw [List.set_set, hGs] at this
            exact p _ S2 H2 this
          | rt d => rw [hS] at p; exact p
          | bk r2 =>
            rw [hS] at p
            intro σ2 S2 H2 e2
            have := (EnvOk.cf (c' := c) e2 rfl rfl).unset i
            rw [List.set_set, hL] at this
            exact p _ S2 H2 this
          | ct r2 =>
            rw [hS] at p
            intro σ2 S2 H2 e2
            have := (EnvOk.cf (c' := c) e2 rfl rfl).unset i
            rw [List.set_set, hL] at this
            exact p _ S2 H2 this
          | er _ _ _ _ => rw [hS] at p; exact p.elim
          | bad => rw [hS] at p; exact p.elim
        · subst hb0
          exact p C dd σ' S' H' fs h1 fw (fun g hg => by rw [hge g hg]; exact EnvOk.cf (c' := c) e1 rfl rfl) h3 h4 h5
def lookF (ns : List Str) (vs : List D) (f : Str) : Option D := (ns.zip vs).lookup f
def dXf (i : Nat) (f : Str) : Rho → Res D := fun r => match r[i]? with
  | some (some (.obj _ ns vs)) => match lookF ns vs f with
    | some d => .ok d
    | none => .bad
  | _ => .bad
theorem look_rp {K : PySem.W.Frag} {cm : CM} {S : Hp} {f : Str} {d : D} : ∀ {fs : List (Str × V)} {vs : List D}, RpA K cm S (fs.map (·.2)) vs → lookF (fs.map (·.1)) vs f = some d → ∃ v, fs.lookup f = some v ∧ Rp K cm S v d
  | [], vs, h, q => by cases h; cases q
  | (g, u) :: fs, _, h, q => by
    cases h with | @cons _ _ d' ds hu hr =>
    unfold lookF at q
    rw [List.map_cons, List.zip_cons_cons, List.lookup_cons] at q
    rw [List.lookup_cons]
    by_cases hfg : (f == g) = true
    · rw [hfg] at q ⊢; cases q; exact ⟨u, rfl, hu⟩
    · have : (f == g) = false := by simpa using hfg
      rw [this] at q ⊢
      exact look_rp hr q
theorem de_xf {a C dd : Addr} {oe : Obj} {pn : List (Addr × Obj)} {i : Nat} {nm f : Str} {pn' : Pos} (T : XfC X.K C) (hno : PySem.W.findIn X.K (.ref C) f = some none) (k : kd G i = .x a C dd)
    (hz : Zc (.ref C) (some dd) oe) (hf : ∃ vs, oe.data = .fields vs) (he : PE (X.suite a ((a, oe) :: pn)) (.Name nm pn') (tVar i)) (hb : attributeBase (.Name nm pn') f X.env (eval (.Name nm pn') X.env) = eval (.Name nm pn') X.env := by rfl) :
    PE (X.suite a ((a, oe) :: pn)) (.Attribute (.Name nm pn') f pos) (tV c G (dXf i f)) := pe_imp (pe_xf T hno hz hf he hb) fun σ H Q ⟨S0, H0, S, r, ok, p⟩ => by
  unfold dXf at p
  split at p
  · rename_i n ns vs hr
    obtain ⟨v, h1, h2⟩ := ok.slot i _ hr
    rw [k] at h2
    obtain ⟨rfl, n', ns', ds', fs, z1, z2, z3, z4, z5⟩ := h2
    cases z1
    split at p
    · rename_i d hd
      rw [z4] at hd
      obtain ⟨u, q1, q2⟩ := look_rp z5 hd
      exact ⟨.ref a, h1, rfl, rfl, dd, fs, u, rfl, ok.ex _ _ z3, q1, p.here ok.ex q2⟩
    · exact p.elim
  · exact p.elim
/-- isinstance(e, c), e the exception that the suite holds -/
def rIsX (K : PySem.W.Frag) (C a dd : Addr) : List V → Hp → VK → Prop := fun xs H Q => ∃ (c : V) (cv : Value) (b : Bool) (fs : List (Str × V)), xs = [.ref a, c] ∧ (∀ u, RelV c u → u = cv) ∧ H dd = some (.xd fs) ∧ PySem.W.kitOne K (.ref C) cv = some b ∧ Q (.bl b) H
theorem call_isX {a C dd : Addr} {oe : Obj} {pn : List (Addr × Obj)} (T : ExcC X.K C) (hz : Zc (.ref C) (some dd) oe) (hf : ∃ vs, oe.data = .fields vs) : CallR (X.suite a ((a, oe) :: pn)) (.builtin "isinstance") (rIsX X.K C a dd) := by
  intro pins s σ H xs us Q I r h
  obtain ⟨cc, cv, b, fs, rfl, hcv, hdd, hk, q⟩ := h
  match us, r with
  | [u1, u2], .cons rx (.cons rt .nil) =>
    cases rx
    have ec := hcv _ rt
    subst ec
    have hpin := (I.pin (a, oe) (List.mem_append_left _ List.mem_cons_self)).1
    obtain ⟨vs, hv⟩ := hf
    have hx : ObjOk X.prog X.w H s.heap dd (.xd fs) := I.hok dd _ hdd
    obtain ⟨mA, hns, _⟩ := hx
    obtain ⟨od, ho, _⟩ := lookIn_ns hns
    have J : PySem.W.InstAt s.heap a oe C (some od) := ⟨hpin, hz.1, by unfold PySem.W.notCls; rw [hv], by rw [hz.2]; exact ho⟩
    have hcl : (PySem.W.clsIn X.K C).isSome = true := by
      have h1 := T.hd
      unfold PySem.W.hasDictIn at h1
      cases hc : PySem.W.clsIn X.K C with
      | none => rw [hc] at h1; cases h1
      | some _ => rfl
    exact PySem.W.kia_one (PySem.W.kitx_exc hcl T.hg T.hk T.hs T.ha T.hn T.ht T.hm) I.kIn J hk (fun z => nomatch z) fun tk => ⟨.bl b, H, I.kept (t' := tk) fun _ _ z => z, rfl, q⟩
/-- isM: which of the classes that are caught are of this class -/
def dIsX (isM : Str → Option Bool) (i : Nat) : Rho → Res D := fun r => match r[i]? with
  | some (some (.obj n _ _)) => match isM n with
    | some b => .ok (.bl b)
    | none => .bad
  | _ => .bad
theorem de_isX {a C dd : Addr} {oe : Obj} {pn : List (Addr × Obj)} {i : Nat} {nm xc : Str} {pn' pc : Pos} {isM : Str → Option Bool} {v : V} {cv : Value} (k : kd G i = .x a C dd) (T : ExcC X.K C) (hz : Zc (.ref C) (some dd) oe) (hf : ∃ vs, oe.data = .fields vs)
    (hcv : ∀ u, RelV v u → u = cv) (hM : ∀ n b, c.cm n = some C → isM n = some b → PySem.W.kitOne X.K (.ref C) cv = some b)
    (hm : X.mg "isinstance" = none) (hg : Gl X "isinstance") (hv : PE (X.suite a ((a, oe) :: pn)) (.Name nm pn') (tVar i)) (hT : PE (X.suite a ((a, oe) :: pn)) (.Name xc pc) (tC v))
    (hs1 : starEach [.Name nm pn', .Name xc pc] X.env = (false, eval (.Name nm pn') X.env) :: starEach [.Name xc pc] X.env := by rfl) (hs2 : starEach [.Name xc pc] X.env = (false, eval (.Name xc pc) X.env) :: starEach [] X.env := by rfl) (hpl : (backTo pos (starEach [.Name xc pc] X.env)).any (·.1) = false := by rfl) :
    PE (X.suite a ((a, oe) :: pn)) (.Call (.Name "isinstance" p) [.Name nm pn', .Name xc pc] [] pos) (tV c G (dIsX isM i)) := by
  refine pe_imp (pe_callB (call_isX T hz hf) hg hm (by decide +kernel) (pa_cons hv (pa_cons hT pa_nil hs2) hs1) (he := hs1) (hpl := hpl)) fun σ H Q ⟨S0, H0, S, r, ok, p⟩ => ?_
  unfold dIsX at p
  split at p
  · rename_i n ns vs hr
    obtain ⟨v', h1, h2⟩ := ok.slot i _ hr
    rw [k] at h2
    obtain ⟨rfl, n', ns', ds', fs, z1, z2, z3, z4, z5⟩ := h2
    cases z1
    split at p
    · rename_i b hb
      exact ⟨.ref a, h1, v, cv, b, fs, rfl, hcv, ok.ex _ _ z3, hM n b z2 hb, p.here ok.ex (.bl _)⟩
    · exact p.elim
  · exact p.elim
end
end Dx
end S_DxG
section S_DxT
set_option Elab.async false
set_option linter.all false
set_option maxRecDepth 100000
set_option maxHeartbeats 2000000
namespace Dx
open PySem L2
theorem gok0 {K : PySem.W.Frag} {cm : CM} {rm : Bool} {E : XK} {G : List Ow} : Gok (cfE K cm rm E) G := fun _ h => nomatch h
theorem gokC {c : Cf} {G : List Ow} : Gok c.calm G := fun _ h => nomatch h
theorem gokT {c : Cf} {W : WX} {G : List Ow} : Gok (c.try W G) G := fun _ h => (Option.some.inj h).symm
theorem fnok_bad {P : Program} {w : World} {K : PySem.W.Frag} {mg : Str → Option Value} {base : Heap} {CX : CXT} {k : Nat} {f : Addr} {fd : FuncData} {ps : List Str} {cm : CM} {ms : List Bool} {rm : Bool} : FnOk P w K mg base CX k f fd ps (spD K cm ms rm fun _ => .bad) :=
  ⟨fun _ _ _ _ ⟨_, _, _, _, h⟩ => h.elim, fun _ _ _ _ _ _ _ _ _ _ _ _ _ ⟨_, _, _, _, h⟩ => h.elim⟩
theorem ints_rp {K : PySem.W.Frag} {cm : CM} {S : Hp} : ∀ ns : List Int, RpA K cm S (ns.map V.int) (ns.map D.int)
  | [] => .nil
  | n :: ns => .cons (.int n) (ints_rp ns)
theorem law_sp {K : PySem.W.Frag} {cm : CM} {F : List D → Res D} {ns : List Int} {H : Hp} {a : Addr} {Q : VK} {E : XK} (h : F [.fz (ns.map D.int)] = .ok (.bl true)) (hS : SqL K H a (ns.map V.int)) (k : ∀ H', Q (.bl true) H') : spD K cm [false] false F [.ref a] H Q E :=
  ⟨H, [.fz (ns.map D.int)], Ex.refl, ⟨.fz hS (ints_rp ns), trivial⟩, by
    rw [h]
    intro S' H' w b hb
    cases hb
    exact k H'⟩
theorem cx_never {P : Program} {w : World} {outer : List Env} {H : Hp} {s s' : Shared} {e : Value} (h : L2.CX P w outer H s (fun _ _ _ => False) e s') : False := by
  obtain ⟨_, _, _, _, _, _, _, _, _, _, _, _, hf⟩ := h
  exact hf
section
variable {X : Cx} {c : Cf} {L G G' : List Ow} {f f1 f2 : Rho → Res D} {o e : Expr} {pos apos : Pos}
def asS : D → Res Str
  | .str s => .ok s
  | _ => .bad
def MtS (c : Cf) (R : Md V D) (r : V → List V → Hp → VK → Prop) (g : D → D → Res D) : Prop := ∀ (σ : St) (S H : Hp) (x y : V) (d e : D) (Q : VK), Ex S H → RpB c.K c.cm S H x d → RpB c.K c.cm S H y e →
  PostG c σ S H (g d e) (fun a S' H' => ∀ b, R H S' H' b a → Q b H') → r x [y] H Q
def dStr (g : D → D → Res D) (f1 f2 : Rho → Res D) : Rho → Res D := fun r => (f1 r).bind fun x => (asS x).bind fun _ => (f2 r).bind fun y => g x y
theorem de_m1 {R : Md V D} [Anti R] {id : String} {name : Str} {r : V → List V → Hp → VK → Prop} {g : D → D → Res D} (slot : Slot "str" name id) (ty : typeOf (.builtin id) = pure (.type "method_descriptor")) (rule : MtR X id r) (hs : MtS c R r g) (ho : PE X o (tR c G f1)) (he : PE X e (tR c G f2))
    (hst : starEach [e] X.env = [(false, eval e X.env)] := by rfl) (hbase : attributeBase o name X.env (eval o X.env) = eval o X.env := by rfl) (hline : (apos.endLine == pos.line) = true := by rfl) :
    PE X (.Call (.Attribute o name apos) [e] [] pos) (rd c G (dStr g f1 f2) R) := pe_imp (pe_m1 slot ty rule ho he hst hbase hline) fun σ H Q ⟨S0, H0, S, r, ok, p⟩ => rd_seq ok p fun x v S1 H1 w1 o1 m1 p1 => by
  cases x with
  | str z =>
    have hv := RpB.str m1
    exact ⟨⟨z, hv⟩, rd_seq o1 (show PostG c σ S1 H1 ((f2 r).bind fun y => g (.str z) y) _ from p1) fun y u S2 H2 w2 o2 m2 p2 => hs σ S2 H2 v u (.str z) y Q o2.ex (RpB.mono m1 w2.s w2.h) m2 (p2.anti (w1.h.trans w2.h))⟩
  | _ => exact p1.elim
def strsD (zs : List Str) : List D := zs.map .str
noncomputable def splitD : D → D → Res D
  | .str a, .str b => guard ((b.length == 0) = false ∧ a.length + 2 ≤ sizeLine) (.ok (.lst (strsD (Txt.split a b))))
  | _, _ => .bad
def startD : D → D → Res D
  | .str a, .str b => .ok (.bl (Txt.startswith a b))
  | _, _ => .bad
def endD : D → D → Res D
  | .str a, .str b => .ok (.bl (Txt.endswith a b))
  | _, _ => .bad
/-- the texts of a list or a tuple -/
def allStr : List D → Option (List Str)
  | [] => some []
  | .str z :: ds => (allStr ds).map (z :: ·)
  | _ :: _ => none
theorem allStr_rp {K : PySem.W.Frag} {cm : CM} {S : Hp} : ∀ {ds : List D} {vs : List V} {zs : List Str}, RpA K cm S vs ds → allStr ds = some zs → vs = zs.map V.str
  | [], _, _, h, q => by cases h; cases q; rfl
  | d :: ds, _, _, h, q => by
    cases h with | cons hd hr =>
    cases d with
    | str z =>
      rw [allStr] at q
      obtain ⟨zs, h1, rfl⟩ := Option.map_eq_some_iff.mp q
      cases hd
      rw [allStr_rp hr h1]; rfl
    | _ => cases q
noncomputable def joinZ (a : Str) : Option (List Str) → Res D
  | some zs => guard ((zs.map (·.length)).sum + zs.length * a.length ≤ 16777216) (.ok (.str (Txt.join a zs)))
  | none => .bad
noncomputable def joinD : D → D → Res D
  | .str a, d => (items d).bind fun ds => joinZ a (allStr ds)
  | _, _ => .bad
theorem ms_join (hK : c.K = X.K := by rfl) : MtS c (mV c) (fun x xs H Q => ∃ a p, ∃ ys : List Str, x = .str a ∧ xs = [.ref p] ∧ (SqL X.K H p (ys.map V.str) ∨ SqT X.K H p (ys.map V.str)) ∧
    (ys.map (·.length)).sum + ys.length * a.length ≤ 16777216 ∧ Q (.str (Txt.join a ys)) H) joinD := by
  intro σ S H x y d e Q ex hx hy p
  cases d with
  | str a =>
    cases hx.str
    have fin : ∀ ds, items e = .ok ds → ∃ zs, allStr ds = some zs ∧ (zs.map (·.length)).sum + zs.length * a.length ≤ 16777216 ∧ Q (.str (Txt.join a zs)) H := fun ds hds => by
      replace p : PostG c σ S H ((items e).bind fun ds => joinZ a (allStr ds)) (fun a S' H' => ∀ b, mV c H S' H' b a → Q b H') := p
      rw [hds] at p
      replace p : PostG c σ S H (joinZ a (allStr ds)) (fun a S' H' => ∀ b, mV c H S' H' b a → Q b H') := p
      cases hz : allStr ds with
      | none => rw [hz] at p; exact p.elim
      | some zs =>
        rw [hz] at p
        obtain ⟨hl, p⟩ := p.gd
        exact ⟨zs, rfl, hl, p.here ex (.str _)⟩
    rw [← hK]
    cases e with
    | lst ds =>
      obtain ⟨q, xs, rfl, a1, r1⟩ := hy.list ex
      obtain ⟨zs, h1, h2, h3⟩ := fin ds rfl
      have := allStr_rp r1 h1; subst this
      exact ⟨a, q, zs, rfl, rfl, .inl (.inl (.inl a1)), h2, h3⟩
    | fz ds =>
      obtain ⟨q, xs, rfl, a1, r1⟩ := hy.fz ex
      obtain ⟨zs, h1, h2, h3⟩ := fin ds rfl
      have := allStr_rp r1 h1; subst this
      exact ⟨a, q, zs, rfl, rfl, .inl a1, h2, h3⟩
    | tup ds =>
      obtain ⟨q, xs, rfl, a1, r1, s1⟩ := hy.tup ex
      obtain ⟨zs, h1, h2, h3⟩ := fin ds rfl
      have := allStr_rp r1 h1; subst this
      exact ⟨a, q, zs, rfl, rfl, .inr a1, h2, h3⟩
    | _ => exact p.elim
  | _ => exact p.elim
noncomputable def ordX : D → Res D
  | .str x => guard (x.length = 1) (.ok (.int (x.cps.getD 0 0 : Nat)))
  | _ => .bad
noncomputable def fmtD : D → Res D
  | .str y => guard (y.length ≤ sizeLine) (.ok (.str y))
  | .int i => guard (i.natAbs.log2 < 1920) (.ok (.str (toString i)))
  | _ => .bad
def dJnil : Str → Rho → Res D := fun acc _ => .ok (.str acc)
noncomputable def dJcons (f : Rho → Res D) (g : Str → Rho → Res D) : Str → Rho → Res D := fun acc r => (f r).bind fun d => (asS d).bind fun y => guard ((acc ++ y).length ≤ sizeLine) (g (acc ++ y) r)
def dJoin (g : Str → Rho → Res D) : Rho → Res D := g Str.empty
noncomputable def truB : D → Res Bool
  | .non => .ok false
  | .bl b => .ok b
  | .int i => .ok (i != 0)
  | .str y => guard (y.length ≤ sizeLine) (.ok ((y.length : Int) != 0))
  | .lst ds => .ok (!ds.isEmpty)
  | .fz ds => .ok (!ds.isEmpty)
  | .tup ds => .ok (!ds.isEmpty)
  | _ => .bad
noncomputable def dTru (f : Rho → Res D) : Rho → Res Bool := fun r => (f r).bind truB
theorem RpA.empty {K : PySem.W.Frag} {cm : CM} {S : Hp} {vs : List V} {ds : List D} (h : RpA K cm S vs ds) : (!ds.isEmpty) = !vs.isEmpty := by cases h <;> rfl
def augF (i : Nat) (g : D → D → Res D) (f : Rho → Res D) : Rho → SR := fun r => liftS r (dVar i r) fun x => liftS r (f r) fun y => liftS r (g x y) fun z => .nx (r.set i (some z))
end
end Dx
end S_DxT
section S_DxS
set_option Elab.async false
set_option linter.all false
set_option maxRecDepth 100000
set_option maxHeartbeats 2000000
namespace Dx
open PySem L2
def noSW (G : List Ow) : Prop := ∀ i, (∀ P, kd G i ≠ .s P) ∧ kd G i ≠ .w
def plainK : Ow → Bool
  | .s _ => false
  | .w => false
  | _ => true
theorem noSW_of {G : List Ow} (h : G.all plainK = true) : noSW G := fun i => by
  unfold kd
  rw [List.getD_eq_getElem?_getD]
  cases e : G[i]? with
  | none => exact ⟨fun _ z => (by cases z), fun z => (by cases z)⟩
  | some k =>
    have := List.all_eq_true.mp h k (List.mem_of_getElem? e)
    refine ⟨fun P z => ?_, fun z => ?_⟩
    · have z : k = .s P := z
      rw [z] at this; cases this
    · have z : k = .w := z
      rw [z] at this; cases this
def noS : Ow → Bool
  | .s _ => false
  | _ => true
theorem onlyS_of {G : List Ow} {i0 : Nat} (h : (G.set i0 .v).all noS = true) : ∀ j P, kd G j = .s P → j = i0 := fun j P hj => by
  by_cases ne : i0 = j
  · exact ne.symm
  · exfalso
    have h2 : kd (G.set i0 .v) j = .s P := (kd_set_ne ne).trans hj
    unfold kd at h2
    rw [List.getD_eq_getElem?_getD] at h2
    cases e : (G.set i0 .v)[j]? with
    | none => rw [e] at h2; cases h2
    | some k =>
      rw [e] at h2
      have h2 : k = .s P := h2
      have := List.all_eq_true.mp h k (List.mem_of_getElem? e)
      rw [h2] at this; cases this
/-- new own lists that stand in each other -/
def mG (c : Cf) : Md V D := fun H S' H' v d => ∃ k M A, d = .st k M ∧ A.Nodup ∧ A.length = M.length ∧ (∃ a, A[k]? = some a ∧ v = .ref a) ∧ (∀ a ∈ A, H a = none ∧ S' a = none) ∧
  ∀ (n : Nat) row, M[n]? = some row → ∃ a xs, A[n]? = some a ∧ H' a = some (.lst xs) ∧ RmA c.K c.cm A S' xs row
instance {c : Cf} : Anti (mG c) := ⟨fun e ⟨k, M, A, h1, h2, h3, h4, h5, h6⟩ => ⟨k, M, A, h1, h2, h3, h4, fun a ha => ⟨e.nn (h5 a ha).1, (h5 a ha).2⟩, h6⟩⟩
section
variable {X : Cx} {c : Cf} {L G G' : List Ow} {σ : St} {S0 H0 S H S' H' : Hp} {r : Rho}
theorem EnvOk.setS (e : EnvOk c S0 H0 G S H σ r) (f : Fwd S H S' H') {v : V} {d : D} (i : Nat) (hi : i < G.length) (hn : noSW (G.set i .v)) (m : mG c H S' H' v d) :
    EnvOk c S0 H0 (G.set i (.s [])) S' H' (σ.set i (some v)) (r.set i (some d)) := by
  obtain ⟨k, M, A, rfl, m1, m2, ⟨a, m3, rfl⟩, m4, m5⟩ := m
  have e' := e.go f
  have only : ∀ j P, kd (G.set i (.s [])) j = .s P → i = j := fun j P hj => by
    by_cases ne : i = j
    · exact ne
    · rw [kd_set_ne ne] at hj
      have := (hn j).1 P
      rw [kd_set_ne ne] at this
      exact absurd hj this
  refine ⟨e'.fwd, by simp [e.len], fun j b hb => ?_, fun j l b b' q hj hk kj kk sj sk => ?_, A, m1, fun x hx => ?_, fun j b p hj kj sj => ?_, fun j k' M' P kj hj => ?_, fun j k' kj hj => ?_⟩
  · rcases set_some hb with ⟨rfl, ea, hl⟩ | ⟨ne, hb⟩
    · cases ea
      exact ⟨.ref a, by rw [List.getElem?_set_self (by rw [e.len]; exact hl)], by rw [kd_set_o hi]; exact ⟨k, M, rfl⟩⟩
    · obtain ⟨u, h1, h2⟩ := e'.slot j b hb
      exact ⟨u, by rw [List.getElem?_set_ne ne]; exact h1, by rw [kd_set_ne ne]; exact h2⟩
  · have nj : i ≠ j := fun z => by subst z; rw [kd_set_o hi] at kj; cases kj
    have nk : i ≠ l := fun z => by subst z; rw [kd_set_o hi] at kk; cases kk
    rw [List.getElem?_set_ne nj] at hj sj
    rw [List.getElem?_set_ne nk] at hk sk
    rw [kd_set_ne nj] at kj
    rw [kd_set_ne nk] at kk
    exact e.sep j l b b' q hj hk kj kk sj sk
  · obtain ⟨n, hn'⟩ := List.mem_iff_getElem?.mp hx
    have hlt : n < M.length := by rw [← m2]; exact (List.getElem?_eq_some_iff.mp hn').1
    obtain ⟨a', xs, z1, z2, z3⟩ := m5 n M[n] (List.getElem?_eq_getElem hlt)
    rw [hn'] at z1; cases z1
    exact ⟨(m4 x hx).2, e.fwd.h.nn (m4 x hx).1, xs, z2⟩
  · have nj : i ≠ j := fun z => by subst z; rw [kd_set_o hi] at kj; cases kj
    rw [List.getElem?_set_ne nj] at hj sj
    rw [kd_set_ne nj] at kj
    intro hp
    obtain ⟨q, ho, s1, s2, _⟩ := e.ownI kj hj
    rw [sj] at s1; cases s1
    rw [(m4 p hp).1] at s2; cases s2
  · have ij := only j P kj
    subst ij
    rcases set_some hj with ⟨_, ea, hl⟩ | ⟨ne, _⟩
    · cases ea
      have hP : P = [] := by rw [kd_set_o hi] at kj; cases kj; rfl
      exact ⟨⟨hP ▸ List.nil_prefix, m2⟩, ⟨a, m3, by rw [List.getElem?_set_self (by rw [e.len]; exact hl)]⟩, m5⟩
    · exact absurd rfl ne
  · exfalso
    by_cases ne : i = j
    · subst ne; rw [kd_set_o hi] at kj; cases kj
    · rw [kd_set_ne ne] at kj
      have := (hn j).2
      rw [kd_set_ne ne] at this
      exact this kj
variable {e : Expr} {pos : Pos} {f : Rho → Res D}
/-- x = e, new own lists in each other -/
theorem ds_setS (i : Nat) {x : Str} {pos' : Pos} (hg : Gok c G) (hG : i < G.length) (hn : noSW (G.set i .v)) (hN : X.N.Nodup) (hi : X.N[i]? = some x) (hx : Loc X.env.scope x) (he : PE X e (rd c G f (mG c))) (hs : swapsWith e (some (.Name x pos')) pos.line X.env = pure false := by rfl)
    (hf : X.fn x = true ∨ X.env.scope.names.lookup x = some .local := by first | exact .inl rfl | exact .inr rfl | assumption) : PS X (.Assign [.Name x pos'] e pos) (sD c L G (G.set i (.s [])) (setF i f)) :=
  ps_imp (ps_set hN hi hx he hs hf) fun E σ H ⟨S0, H0, S, r, ok, p⟩ => st_seq hg ok p fun d v S1 H1 w1 o1 m1 p1 => p1 _ S1 H1 (ok.setS w1 i hG hn m1)
/-- one of the own lists -/
def tW (c : Cf) (G : List Ow) (f : Rho → Res Nat) : TE := fun σ H Q => ∃ S0 H0 S r A, EnvOk c S0 H0 G S H σ r ∧ StoOk c.K c.cm H0 G S H σ r A ∧ PostG c σ S H (f r) fun k S' H' => ∀ a, A[k]? = some a → Q (.ref a) H'
def wRoot (i : Nat) : Rho → Res Nat := fun r => match r[i]? with
  | some (some (.st k _)) => .ok k
  | _ => .bad
def wVar (i : Nat) : Rho → Res Nat := fun r => match r[i]? with
  | some (some (.own k)) => .ok k
  | _ => .bad
def rowsR (i : Nat) (r : Rho) : List (List D) := match r[i]? with
  | some (some (.st _ M)) => M
  | _ => []
/-- the row k of the lists in slot i0 -/
def rowAt (i0 : Nat) (r : Rho) (k : Nat) : Res (List D) := match (rowsR i0 r)[k]? with
  | some row => .ok row
  | none => .bad
theorem dw_root (i : Nat) {x : Str} (h : PE X (.Name x pos) (tVar i)) {P : List Addr} (k : kd G i = .s P) : PE X (.Name x pos) (tW c G (wRoot i)) := pe_imp h fun σ H Q ⟨S0, H0, S, r, A, ok, so, p⟩ => by
  unfold wRoot at p
  split at p
  · rename_i n M hd
    obtain ⟨_, ⟨a, h1, h2⟩, _⟩ := so.st i n M _ k hd
    exact ⟨_, h2, p.go ok.ex a h1⟩
  · exact p.elim
theorem dw_var (i : Nat) {x : Str} (h : PE X (.Name x pos) (tVar i)) (k : kd G i = .w) : PE X (.Name x pos) (tW c G (wVar i)) := pe_imp h fun σ H Q ⟨S0, H0, S, r, A, ok, so, p⟩ => by
  unfold wVar at p
  split at p
  · rename_i n hd
    obtain ⟨a, h1, h2⟩ := so.al i n k hd
    exact ⟨_, h2, p.go ok.ex a h1⟩
  · exact p.elim
theorem of_row {A : List Addr} {i0 k : Nat} {kk : List D → Hp → Hp → Prop} {P0 : List Addr} (k0 : kd G i0 = .s P0) (so : StoOk c.K c.cm H0 G S H σ r A) {S1 H1 : Hp} (p : PostG c σ S1 H1 (rowAt i0 r k) kk) :
    ∃ row a xs, A[k]? = some a ∧ H a = some (.lst xs) ∧ RmA c.K c.cm A S xs row ∧ (rowsR i0 r)[k]? = some row ∧ PostG c σ S1 H1 (.ok row) kk := by
  unfold rowAt at p
  split at p
  · rename_i row hrow
    have hr := hrow
    unfold rowsR at hr
    split at hr
    · rename_i k' M hd
      obtain ⟨a, xs, h1, h2, h3⟩ := (so.st i0 k' M _ k0 hd).2.2 k row hr
      exact ⟨row, a, xs, h1, h2, h3, hrow, p⟩
    · simp at hr
  · exact p.elim
def isOwn : D → Bool
  | .own _ => true
  | .st _ _ => true
  | _ => false
theorem RmA.plain {A : List Addr} {xs : List V} {row : List D} (h : RmA c.K c.cm A S xs row) (hp : row.all (fun d => !isOwn d) = true) : RpA c.K c.cm S xs row := by
  obtain ⟨hl, h⟩ := h
  induction row generalizing xs with
  | nil =>
    cases xs with
    | nil => exact .nil
    | cons _ _ => cases hl
  | cons d row ih =>
    cases xs with
    | nil => cases hl
    | cons v xs =>
      rw [List.all_cons, Bool.and_eq_true] at hp
      refine .cons ?_ (ih hp.2 (by simpa using hl) fun i v d hv hd => h (i + 1) v d (by simpa using hv) (by simpa using hd))
      rcases h 0 v d rfl rfl with z | ⟨k, a, rfl, _⟩
      · exact z
      · cases hp.1
/-- such a list, read, where its items are values -/
def wRow (i0 : Nat) (f : Rho → Res Nat) : Rho → Res D := fun r => (f r).bind fun k => (rowAt i0 r k).bind fun row => if row.all (fun d => !isOwn d) = true then .ok (.lst row) else .bad
theorem db_row (i0 : Nat) {f : Rho → Res Nat} {P0 : List Addr} (k0 : kd G i0 = .s P0) (h : PE X e (tW c G f)) : PE X e (tR c G (wRow i0 f)) := pe_imp h fun σ H Q ⟨S0, H0, S, r, ok, p⟩ => by
  obtain ⟨A, so⟩ := ok.sto
  refine ⟨S0, H0, S, r, A, ok, so, p.unbind.imp fun k S1 H1 w1 p1 a ha => ?_⟩
  obtain ⟨row, a', xs, h1, h2, h3, _, p2⟩ := of_row k0 (so.go w1) p1.unbind
  rw [ha] at h1; cases h1
  have p3 := p2.go w1.sub
  split at p3
  · rename_i hp
    exact p3.go w1.sub _ (.inr ⟨a, _, rfl, h2, .lst (h3.plain hp)⟩)
  · exact p3.elim
/-- len of such a list -/
def wLen (i0 : Nat) (f : Rho → Res Nat) : Rho → Res D := fun r => (f r).bind fun k => (rowAt i0 r k).bind fun row => .ok (.int row.length)
theorem de_wlen (i0 : Nat) {f : Rho → Res Nat} {p : Pos} {P0 : List Addr} (k0 : kd G i0 = .s P0) (hm : X.mg "len" = none) (hg : Gl X "len") (h : PE X e (tW c G f)) (hK : c.K = X.K := by rfl)
    (he : starEach [e] X.env = (false, eval e X.env) :: starEach [] X.env := by rfl) :
    PE X (.Call (.Name "len" p) [e] [] pos) (tV c G (wLen i0 f)) := by
  refine pe_imp (pe_callB call_len hg hm (by decide +kernel) (pa_cons h pa_nil he) (he := he) (hpl := rfl)) fun σ H Q ⟨S0, H0, S, r, ok, p⟩ => ?_
  obtain ⟨A, so⟩ := ok.sto
  refine ⟨S0, H0, S, r, A, ok, so, p.unbind.imp fun k S1 H1 w1 p1 a ha => ?_⟩
  obtain ⟨row, a', xs, h1, h2, h3, _, p2⟩ := of_row k0 (so.go w1) p1.unbind
  rw [ha] at h1; cases h1
  exact ⟨.ref a, row.length, rfl, .inl ⟨xs, .inl (.inl h2), h3.1.symm⟩, (p2.go w1.sub).go w1.sub _ (.int _)⟩
/-- P[i], again such a list -/
def wAt (i0 : Nat) (f : Rho → Res Nat) (fi : Rho → Res D) : Rho → Res Nat := fun r => (f r).bind fun k => (fi r).bind fun d => (asI d).bind fun j => (rowAt i0 r k).bind fun row => match L2.atI row j with
  | some (.own k') => .ok k'
  | _ => .bad
theorem RmA.atI {A : List Addr} {xs : List V} {row : List D} {j : Int} {d : D} (h : RmA c.K c.cm A S xs row) (q : L2.atI row j = some d) : ∃ v, L2.atI xs j = some v ∧ RmV c.K c.cm A S v d := by
  unfold L2.atI at q ⊢
  rw [h.1]
  cases hj : ixN row.length j with
  | none => rw [hj] at q; cases q
  | some n =>
    rw [hj] at q
    have q : row[n]? = some d := q
    have hlt : n < xs.length := by rw [h.1]; exact (List.getElem?_eq_some_iff.mp q).1
    exact ⟨xs[n], List.getElem?_eq_getElem hlt, h.2 n _ d (List.getElem?_eq_getElem hlt) q⟩
theorem dw_at (i0 : Nat) {a b : Expr} {f : Rho → Res Nat} {fi : Rho → Res D} {P0 : List Addr} (k0 : kd G i0 = .s P0) (ha : PE X a (tW c G f)) (hb : PE X b (tV c G fi)) (hs : PlainIx b) (hK : c.K = X.K := by rfl) : PE X (.Subscript a b pos) (tW c G (wAt i0 f fi)) :=
  pe_imp (pe_ix ix_list ha hb hs) fun σ H Q ⟨S0, H0, S, r, A, ok, so, p⟩ => by
    refine ⟨S0, H0, S, r, A, ok, so, p.unbind.imp fun k S1 H1 w1 p1 a ha => ?_⟩
    refine ⟨S0, H0, S1, r, ok.go w1, p1.unbind.imp fun d S2 H2 w2 p2 v hv => ?_⟩
    obtain ⟨j, rfl, p3⟩ := of_asI p2.unbind
    cases hv
    obtain ⟨row, a', xs, h1, h2, h3, _, p4⟩ := of_row k0 ((so.go w1).go w2) (p3.go w2.sub).unbind
    rw [ha] at h1; cases h1
    have p5 := p4.go w2.sub
    split at p5
    · rename_i k' hat
      obtain ⟨v, q1, q2⟩ := h3.atI hat
      rcases q2 with q2 | ⟨k2, a2, e2, q3, rfl⟩
      · cases q2
      · cases e2
        exact ⟨a, xs, j, .ref a2, rfl, rfl, .inl (.inl h2), q1, p5.go w2.sub a2 q3⟩
    · exact p5.elim
/-- P[i], a value -/
def wIx (i0 : Nat) (f : Rho → Res Nat) (fi : Rho → Res D) : Rho → Res D := fun r => (f r).bind fun k => (fi r).bind fun d => (asI d).bind fun j => (rowAt i0 r k).bind fun row => match L2.atI row j with
  | some d => if isOwn d = true then .bad else .ok d
  | _ => .bad
theorem de_wix (i0 : Nat) {a b : Expr} {f : Rho → Res Nat} {fi : Rho → Res D} {P0 : List Addr} (k0 : kd G i0 = .s P0) (ha : PE X a (tW c G f)) (hb : PE X b (tV c G fi)) (hs : PlainIx b) (hK : c.K = X.K := by rfl) : PE X (.Subscript a b pos) (tV c G (wIx i0 f fi)) :=
  pe_imp (pe_ix ix_list ha hb hs) fun σ H Q ⟨S0, H0, S, r, ok, p⟩ => by
    obtain ⟨A, so⟩ := ok.sto
    refine ⟨S0, H0, S, r, A, ok, so, p.unbind.imp fun k S1 H1 w1 p1 a ha => ?_⟩
    refine ⟨S0, H0, S1, r, ok.go w1, p1.unbind.imp fun d S2 H2 w2 p2 v hv => ?_⟩
    obtain ⟨j, rfl, p3⟩ := of_asI p2.unbind
    cases hv
    obtain ⟨row, a', xs, h1, h2, h3, _, p4⟩ := of_row k0 ((so.go w1).go w2) (p3.go w2.sub).unbind
    rw [ha] at h1; cases h1
    have p5 := p4.go w2.sub
    split at p5
    · rename_i d hat
      split at p5
      · exact p5.elim
      · rename_i hno
        obtain ⟨v, q1, q2⟩ := h3.atI hat
        rcases q2 with q2 | ⟨k2, a2, rfl, q3, rfl⟩
        · exact ⟨a, xs, j, v, rfl, rfl, .inl (.inl h2), q1, p5.go w2.sub v q2⟩
        · exact absurd rfl hno
    · exact p5.elim
/-- a slot is set to one of the own lists -/
theorem EnvOk.setW (e : EnvOk c S0 H0 G S H σ r) {A : List Addr} (so : StoOk c.K c.cm H0 G S H σ r A) {k : Nat} {a : Addr} (i : Nat) (hi : i < G.length) (ha : A[k]? = some a) :
    EnvOk c S0 H0 (G.set i .w) S H (σ.set i (some (.ref a))) (r.set i (some (.own k))) := by
  refine ⟨e.fwd, by simp [e.len], fun j b hb => ?_, fun j l b b' q hj hk kj kk sj sk => ?_, A, so.nod, so.out, fun j b p hj kj sj => ?_, fun j k' M' P kj hj => ?_, fun j k' kj hj => ?_⟩
  · rcases set_some hb with ⟨rfl, ea, hl⟩ | ⟨ne, hb⟩
    · cases ea
      exact ⟨.ref a, by rw [List.getElem?_set_self (by rw [e.len]; exact hl)], by rw [kd_set_o hi]; exact ⟨k, rfl⟩⟩
    · obtain ⟨u, h1, h2⟩ := e.slot j b hb
      exact ⟨u, by rw [List.getElem?_set_ne ne]; exact h1, by rw [kd_set_ne ne]; exact h2⟩
  · have nj : i ≠ j := fun z => by subst z; rw [kd_set_o hi] at kj; cases kj
    have nk : i ≠ l := fun z => by subst z; rw [kd_set_o hi] at kk; cases kk
    rw [List.getElem?_set_ne nj] at hj sj
    rw [List.getElem?_set_ne nk] at hk sk
    rw [kd_set_ne nj] at kj
    rw [kd_set_ne nk] at kk
    exact e.sep j l b b' q hj hk kj kk sj sk
  · have nj : i ≠ j := fun z => by subst z; rw [kd_set_o hi] at kj; cases kj
    rw [List.getElem?_set_ne nj] at hj sj
    rw [kd_set_ne nj] at kj
    exact so.own j b p hj kj sj
  · have nj : i ≠ j := fun z => by subst z; rw [kd_set_o hi] at kj; cases kj
    rw [List.getElem?_set_ne nj] at hj
    rw [kd_set_ne nj] at kj
    rw [List.getElem?_set_ne nj]
    exact so.st j k' M' P kj hj
  · rcases set_some hj with ⟨rfl, ea, hl⟩ | ⟨ne, hj⟩
    · cases ea
      exact ⟨a, ha, by rw [List.getElem?_set_self (by rw [e.len]; exact hl)]⟩
    · rw [kd_set_ne ne] at kj
      rw [List.getElem?_set_ne ne]
      exact so.al j k' kj hj
/-- y = P -/
def aliF (i : Nat) (f : Rho → Res Nat) : Rho → SR := fun r => liftS r (f r) fun k => .nx (r.set i (some (.own k)))
theorem PostS.lift {α : Type} {x : Res α} {k : α → SR} {E : Ends} (hg : Gok c G) (ok : EnvOk c S0 H0 G S H σ r) (p : PostS c S0 H0 L G' (liftS r x k) E) : PostG c σ S H x fun a S' H' => EnvOk c S0 H0 G S' H' σ r ∧ PostS c S0 H0 L G' (k a) E := by
  cases x with
  | ok a => exact fun S' H' fw => ⟨ok.go fw, p⟩
  | err n ns vs => exact fun C dd S' H' fs h1 fw h2 h3 h4 => p C dd σ S' H' fs h1 (ok.fwd.trans fw) (fun g q => by rw [hg g q]; exact ok.go fw) h2 h3 h4
  | bad => exact p.elim
theorem ds_ali (i : Nat) {x : Str} {pos' : Pos} {f : Rho → Res Nat} (hg : Gok c G) (hG : i < G.length) (hN : X.N.Nodup) (hi : X.N[i]? = some x) (hx : Loc X.env.scope x) (he : PE X e (tW c G f)) (hs : swapsWith e (some (.Name x pos')) pos.line X.env = pure false := by rfl)
    (hf : X.fn x = true ∨ X.env.scope.names.lookup x = some .local := by first | exact .inl rfl | exact .inr rfl | assumption) : PS X (.Assign [.Name x pos'] e pos) (sD c L G (G.set i .w) (aliF i f)) :=
  ps_imp (ps_set hN hi hx he hs hf) fun E σ H ⟨S0, H0, S, r, ok, p⟩ => by
    obtain ⟨A, so⟩ := ok.sto
    exact ⟨S0, H0, S, r, A, ok, so, (PostS.lift hg ok p).imp fun k S1 H1 w1 ⟨o1, p1⟩ a ha => p1 _ S1 H1 (o1.setW (so.go w1) i hG ha)⟩
/-- row k of the lists in slot i0 is changed -/
def putRow (i0 : Nat) (r : Rho) (k : Nat) (row : List D) : Rho := match r[i0]? with
  | some (some (.st k0 M)) => r.set i0 (some (.st k0 (M.set k row)))
  | _ => r
theorem EnvOk.mutW (e : EnvOk c S0 H0 G S H σ r) {A : List Addr} (so : StoOk c.K c.cm H0 G S H σ r A) {i0 k : Nat} {a : Addr} {xs : List V} {row row' : List D} {P0 : List Addr} (h0 : kd G i0 = .s P0) (ha : A[k]? = some a) (hr : (rowsR i0 r)[k]? = some row) (h1 : ∀ j P, kd G j = .s P → j = i0) (hx : RmA c.K c.cm A S xs row') :
    EnvOk c S0 H0 G S (upd H a (.lst xs)) σ (putRow i0 r k row') := by
  unfold rowsR at hr
  split at hr
  · rename_i k0 M hd
    have hput : putRow i0 r k row' = r.set i0 (some (.st k0 (M.set k row'))) := by unfold putRow; rw [hd]
    rw [hput]
    have hA := List.mem_of_getElem? ha
    obtain ⟨o1, o2, _⟩ := so.out a hA
    have hf : Fwd S0 H0 S (upd H a (.lst xs)) := ⟨e.fwd.s, e.fwd.h.put o2, e.fwd.sub.put o1, e.fwd.new⟩
    have sm : ∀ j b, (r.set i0 (some (.st k0 (M.set k row'))))[j]? = some (some b) → (∀ P, kd G j ≠ .s P) → r[j]? = some (some b) := fun j b hb kj => by
      rcases set_some hb with ⟨rfl, _, _⟩ | ⟨_, hb⟩
      · exact absurd h0 (kj _)
      · exact hb
    refine ⟨hf, by simp [e.len], fun j b hb => ?_, fun j l b b' q hj hk kj kk sj sk => ?_, A, so.nod, fun x hx' => ?_, fun j b p hj kj sj => ?_, fun j k' M' P kj hj => ?_, fun j k' kj hj => ?_⟩
    · rcases set_some hb with ⟨rfl, ea, hl⟩ | ⟨ne, hb⟩
      · cases ea
        obtain ⟨v, q1, q2⟩ := e.slot i0 _ hd
        exact ⟨v, q1, by rw [h0]; exact ⟨_, _, rfl⟩⟩
      · obtain ⟨u, q1, q2⟩ := e.slot j b hb
        refine ⟨u, q1, ?_⟩
        cases kj : kd G j with
        | v => rw [kj] at q2; exact q2
        | b => rw [kj] at q2; exact q2
        | s P => rw [kj] at q2; exact q2
        | w => rw [kj] at q2; exact q2
        | x a C dd => rw [kj] at q2; exact q2
        | o =>
          rw [kj] at q2
          obtain ⟨q, hq, z1, z2, z3, z4, z5⟩ := q2
          subst z1
          have : q ≠ a := fun z => by subst z; exact so.own j b q hb (isO_o kj) q1 hA
          exact ⟨q, hq, rfl, by rw [upd_ne this]; exact z2, z3, z4, z5⟩
        | i a' =>
          rw [kj] at q2
          obtain ⟨z0, q, hq, z1, z2, z3, z4, z5⟩ := q2
          subst z1
          have : q ≠ a := fun z => by subst z; exact so.own j b q hb (by rw [kj]; trivial) q1 hA
          exact ⟨z0, q, hq, rfl, by rw [upd_ne this]; exact z2, z3, z4, z5⟩
    · exact e.sep j l b b' q (sm j b hj (by intro _ z; rw [z] at kj; cases kj)) (sm l b' hk (by intro _ z; rw [z] at kk; cases kk)) kj kk sj sk
    · obtain ⟨z1, z2, z3⟩ := so.out x hx'
      refine ⟨z1, z2, ?_⟩
      by_cases hxa : x = a
      · subst hxa; exact ⟨xs, upd_same⟩
      · rw [upd_ne hxa]; exact z3
    · exact so.own j b p (sm j b hj (by intro _ z; rw [z] at kj; cases kj)) kj sj
    · have hj0 := h1 j P kj
      subst hj0
      rcases set_some hj with ⟨_, ea, _⟩ | ⟨ne, _⟩
      · cases ea
        obtain ⟨y1, y2, y3⟩ := so.st j _ _ P kj hd
        refine ⟨⟨y1.1, by rw [List.length_set]; exact y1.2⟩, y2, fun n row2 hn => ?_⟩
        rw [List.getElem?_set] at hn
        split at hn
        · rename_i hkn
          subst hkn
          split at hn
          · cases hn
            exact ⟨a, xs, ha, upd_same, hx⟩
          · cases hn
        · rename_i hkn
          obtain ⟨a2, xs2, g1, g2, g3⟩ := y3 n row2 hn
          have : a2 ≠ a := fun z => by
            subst z
            have l1 := (List.getElem?_eq_some_iff.mp g1).1
            exact hkn ((List.getElem?_inj l1 so.nod).mp (g1.trans ha.symm)).symm
          exact ⟨a2, xs2, g1, by rw [upd_ne this]; exact g2, g3⟩
      · exact absurd rfl ne
    · exact so.al j k' kj (sm j _ hj (by rw [kj]; intro _ z; cases z))
  · simp at hr
theorem RmA.set {A : List Addr} {xs : List V} {row : List D} {v : V} {d : D} (h : RmA c.K c.cm A S xs row) (hv : Rp c.K c.cm S v d) (n : Nat) : RmA c.K c.cm A S (xs.set n v) (row.set n d) := by
  refine ⟨by rw [List.length_set, List.length_set]; exact h.1, fun i u e hu he => ?_⟩
  rw [List.getElem?_set] at hu he
  split at hu
  · rename_i hni
    rw [if_pos hni] at he
    split at hu
    · cases hu
      split at he
      · cases he; exact .inl hv
      · cases he
    · cases hu
  · rename_i hni
    rw [if_neg hni] at he
    exact h.2 i u e hu he
end
end Dx
end S_DxS
section S_DxU
set_option Elab.async false
set_option linter.all false
set_option maxRecDepth 100000
set_option maxHeartbeats 2000000
namespace Dx
open PySem L2
def optL (g : D → Option D) : List D → Option (List D)
  | [] => some []
  | d :: ds => match g d, optL g ds with
    | some e, some es => some (e :: es)
    | _, _ => none
def derefD : Nat → List (List D) → D → Option D
  | _, _, .st _ _ => none
  | 0, _, .own _ => none
  | n + 1, M, .own k => match M[k]? with
    | some row => match optL (derefD n M) row with
      | some ds => some (.lst ds)
      | none => none
    | none => none
  | _, _, d => some d
section
variable {X : Cx} {c : Cf} {L G G' : List Ow} {σ : St} {S0 H0 S H S' H' : Hp} {r : Rho}
/-- all the own lists of slot i become values; the slots ws, that hold some of them, are given up -/
def pubF (n i : Nat) (ws : List Nat) : Rho → SR := fun r => match r[i]? with
  | some (some (.st k M)) => match derefD n M (.own k) with
    | some d => .nx ((wipeR r ws).set i (some d))
    | none => .bad
  | _ => .bad
/-- a slot that holds nothing yet is told to be one for own lists -/
def nonF (i : Nat) : Rho → SR := fun r => match r[i]? with
  | some (some _) => .bad
  | _ => .nx r
theorem ds_kw (i : Nat) {sts : List Stmt} {F : Rho → SR} (hk : kd G i = .v) (h : PSs X sts (sD c L (G.set i .w) G' F)) : PSs X sts (sD c L G G' (seqF (nonF i) F)) := pss_imp h fun E σ H ⟨S0, H0, S, r, ok, p⟩ => by
  have hno : ∀ d, r[i]? ≠ some (some d) := fun d hd => by
    unfold seqF nonF at p
    rw [hd] at p
    exact p.elim
  have p : PostS c S0 H0 L G' (F r) E := by
    have e : nonF i r = .nx r := by
      unfold nonF
      split
      · rename_i d hd; exact absurd hd (hno d)
      · rfl
    unfold seqF at p
    rw [e] at p
    exact p
  have nj : ∀ {j d}, r[j]? = some (some d) → i ≠ j := fun {j d} hj z => hno d (z ▸ hj)
  obtain ⟨A, so⟩ := ok.sto
  refine ⟨S0, H0, S, r, ⟨ok.fwd, ok.len, fun j b hb => ?_, fun j l b b' q hj hk kj kl sj sk => ?_, A, so.sub (fun a ha => (so.out a ha).1) (fun _ _ => rfl) Ex.refl (fun j b q hj kj sj => ?_) fun j b kj hj => ?_⟩, p⟩
  · obtain ⟨u, h1, h2⟩ := ok.slot j b hb
    exact ⟨u, h1, by rw [kd_set_ne (nj hb)]; exact h2⟩
  · rw [kd_set_ne (nj hj)] at kj
    rw [kd_set_ne (nj hk)] at kl
    exact ok.sep j l b b' q hj hk kj kl sj sk
  · rw [kd_set_ne (nj hj)] at kj
    exact so.own j b q hj kj sj
  · rw [kd_set_ne (nj hj)]
    exact ⟨rfl, hj, rfl⟩
end
end Dx
end S_DxU
section S_DxV
set_option Elab.async false
set_option linter.all false
set_option maxRecDepth 100000
set_option maxHeartbeats 2000000
namespace Dx
open PySem L2
/-- each item with its number -/
def numd : Nat → List D → List D
  | _, [] => []
  | n, d :: ds => .tup [.int (n : Int), d] :: numd (n + 1) ds
section
variable {X : Cx} {c : Cf} {G : List Ow} {f : Rho → Res D} {e : Expr} {pos : Pos}
def itemsF (d : D) : Res (List D) := match d with
  | .lst ds => .ok ds
  | .fz ds => .ok ds
  | _ => .bad
def enumL (d : D) : Res (List D) := (itemsF d).bind fun ds => .ok (numd 0 ds)
def enumT (d : D) : Res (List D) := (itemsT d).bind fun ds => .ok (numd 0 ds)
end
end Dx
end S_DxV
section S_DxW
set_option Elab.async false
set_option linter.all false
set_option maxRecDepth 100000
set_option maxHeartbeats 2000000
namespace Dx
open PySem L2 PyProof.Rows
end Dx
end S_DxW
section S_DxX
set_option Elab.async false
set_option linter.all false
set_option maxRecDepth 100000
set_option maxHeartbeats 2000000
namespace Dx
open PySem L2
section
variable {X : Cx} {c : Cf} {L G G' : List Ow} {f f1 f2 : Rho → Res D} {a b e : Expr} {pos : Pos} {tg : Expr}
noncomputable def powD : D → D → Res D
  | .int i, .int j => guard (0 ≤ j ∧ j ≤ 1000000 ∧ i.natAbs < 18446744073709551616) (.ok (.int (i ^ j.toNat)))
  | _, _ => .bad
theorem os_pow : OpS c (mV c) (rI CPow fun i j => .int (i ^ j.toNat)) powD := by
  intro σ S H x y d e Q ex hx hy p
  unfold powD at p
  split at p
  · obtain ⟨h, p⟩ := p.gd
    cases hx.int
    cases hy.int
    exact ⟨_, _, rfl, rfl, ⟨h.1, h.2.1, by have := h.2.2; omega⟩, p.here ex (.int _)⟩
  · exact p.elim
/-- the numbers from lo down, n of them -/
def rngDn (lo : Int) (n : Nat) : List D := (List.range n).map fun (i : Nat) => D.int (lo - (i : Int))
noncomputable def rng3 : List D → Res (List D)
  | [.int a, .int b, .int (-1)] => guard (-4611686018427387904 ≤ a ∧ a < 4611686018427387904 ∧ -4611686018427387904 ≤ b ∧ b < 4611686018427387904) (.ok (rngDn a (a - b).toNat))
  | _ => .bad
theorem gives_dn {H0 S : Hp} {lo : Int} {n : Nat} : Gives c H0 S (Itc lo (-1) n) (rngDn lo n) := by
  have hl : (rngDn lo n).length = n := by unfold rngDn; simp
  refine ⟨_, _, by rw [hl]; exact walk_rangeC, fun _ _ _ _ _ => trivial, fun i S1 H1 x H2 hi e1 e2 y => ?_⟩
  obtain ⟨rfl, rfl⟩ := y
  rw [hl] at hi
  refine ⟨S1, .int (lo - (i : Int)), Fwd.refl e2, by unfold rngDn; simp [hi], ?_⟩
  have : lo + (i : Int) * (-1) = lo - (i : Int) := by omega
  show Rp c.K c.cm S1 (V.int (lo + (i : Int) * (-1))) _
  rw [this]
  exact .int _
theorem di_rng3 {p : Pos} {c' : Expr} {fs : Rho → Res (List D)} (hm : X.mg "range" = none) (hg : Gl X "range") (ha : PA X [a, b, c'] (tAs c G fs)) (hs : starEach [a, b, c'] X.env = (false, eval a X.env) :: starEach [b, c'] X.env := by rfl) (hpl : (backTo pos (starEach [b, c'] X.env)).any (·.1) = false := by rfl) :
    PI X tg (.Call (.Name "range" p) [a, b, c'] [] pos) (iD c G (dIts rng3 fs)) :=
  pi_imp (pi_range3 hg hm ha hs hpl) fun σ H R ⟨S0, H0, S, r, ok, p⟩ => rd_seq ok p fun ds vs S1 H1 w1 o1 m1 p1 => by
    unfold rng3 at p1
    split at p1
    · obtain ⟨hl, p1⟩ := p1.gd
      match vs, m1 with
      | _, .cons h (.cons h' (.cons h'' .nil)) =>
        cases h; cases h'; cases h''
        obtain ⟨h1, h2, h3, h4⟩ := hl
        exact ⟨_, _, _, _, rfl, RgC.neg (by omega) (by omega) (by omega) (by omega), p1.go o1.ex _ gives_dn⟩
    · exact p1.elim
/-- sum of a list of ints -/
def allInt : List D → Option (List Int)
  | [] => some []
  | .int i :: ds => match allInt ds with
    | some is => some (i :: is)
    | none => none
  | _ => none
def sumD : D → Res D
  | .lst ds => match allInt ds with
    | some is => .ok (.int is.sum)
    | none => .bad
  | _ => .bad
theorem RpA.ints {S : Hp} : ∀ {vs : List V} {ds : List D} {is : List Int}, RpA c.K c.cm S vs ds → allInt ds = some is → vs = is.map V.int
  | _, [], _, h, q => by cases h; cases q; rfl
  | _, d :: ds, is, h, q => by
    cases h with
    | cons h1 h2 =>
      unfold allInt at q
      cases d with
      | int i =>
        dsimp only at q
        split at q
        · rename_i js hj
          cases q
          cases h1
          rw [RpA.ints h2 hj]; rfl
        · cases q
      | _ => cases q
theorem cs_sum : CallS c (mV c) (rSum c.K) [true] (g1 sumD) := by
  intro σ S H vs ds Q ex m p
  obtain ⟨v, d, rfl, rfl, h⟩ := m.one
  cases d with
  | lst ds =>
    obtain ⟨q, xs, rfl, a1, r1⟩ := h.list ex
    replace p : PostG c σ S H (match allInt ds with | some is => Res.ok (D.int is.sum) | none => .bad) (fun a S' H' => ∀ b, mV c H S' H' b a → Q b H') := p
    split at p
    · rename_i is hi
      refine ⟨q, is, rfl, .inl (.inl ?_), p.here ex (.int _)⟩
      rw [← r1.ints hi]; exact a1
    · exact p.elim
  | _ => exact p.elim
def popF (i : Nat) (t : D → Rho → Res Rho) : Rho → SR := fun r => liftS r (ownL i r) fun ds => match ds[ds.length - 1]? with
  | some d => match t d (r.set i (some (.lst ds.dropLast))) with
    | .ok r' => .nx r'
    | _ => .bad
  | none => .bad
theorem RpA.dropLast {S : Hp} {vs : List V} {ds : List D} (h : RpA c.K c.cm S vs ds) : RpA c.K c.cm S vs.dropLast ds.dropLast := by
  rw [List.dropLast_eq_take, List.dropLast_eq_take, h.length]
  exact h.take _
theorem ds_pop (i : Nat) {x : Str} {pn apos cpos : Pos} {ks : List Nat} {t : D → Rho → Res Rho} (hg : Gok c G) (k : kd G i = .o) (ho : PE X (.Name x pn) (tVar i)) (ht : PG X tg (gD c G G' ks t))
    (hbase : attributeBase (.Name x pn) "pop" X.env (eval (.Name x pn) X.env) = eval (.Name x pn) X.env := by rfl) (hline : (apos.endLine == cpos.line) = true := by rfl)
    (hs : swapsWithSole [tg] (.Call (.Attribute (.Name x pn) "pop" apos) [] [] cpos) pos.line X.env = pure false := by rfl) (hw : swappedStores [tg] (.Call (.Attribute (.Name x pn) "pop" apos) [] [] cpos) X.env = pure none := by rfl)
    (h1 : (assignEach [tg] X.env).map (·.2) = [assign tg X.env] := by rfl) :
    PS X (.Assign [tg] (.Call (.Attribute (.Name x pn) "pop" apos) [] [] cpos) pos) (sD c L G G' (popF i t)) :=
  ps_imp (ps_asg (pe_bm0 PySem.F.plainAttrs_list PySem.F.slot_list_pop PySem.F.type_list_pop mt_pop ho hbase hline) ht hs hw h1) fun E σ H ⟨S0, H0, S, r, ok, p⟩ => by
    obtain ⟨q, xs, ds, hd, z1, z2, z3, p1⟩ := of_ownL ok k p
    refine ⟨.ref q, z1, .inl ⟨rfl, xs, .inl (.inl z2)⟩, ?_⟩
    split at p1
    · rename_i d hlast
      obtain ⟨y, hy, ry⟩ := z3.get (i := ds.length - 1) hlast
      rw [← z3.length] at hy
      refine ⟨q, xs, y, rfl, rfl, z2, hy, ?_⟩
      split at p1
      · rename_i r' hr'
        have e1 := ok.mut k hd z1 (.lst z3.dropLast)
        refine ⟨S0, H0, S, _, d, e1, ry, ?_⟩
        rw [hr']
        exact fun σ' _ e2 => p1 σ' S _ e2
      · exact p1.elim
    · exact p1.elim
end
end Dx
end S_DxX
section S_DxY
set_option Elab.async false
set_option linter.all false
set_option maxRecDepth 100000
set_option maxHeartbeats 2000000
namespace Dx
open PySem L2
section
variable {X : Cx} {c : Cf} {L G G' : List Ow} {f f1 : Rho → Res D} {e o : Expr} {es : List Expr} {pos apos p : Pos} {fs : Rho → Res (List D)}
/-- of an object of the class n, its field fl -/
def fldD (n fl : Str) : D → Res D
  | .obj c ns vs => if c = n then (match lookF ns vs fl with
    | some d => .ok d
    | none => .bad) else .bad
  | _ => .bad
variable {k : Nat} {fa : Addr} {fd : FuncData} {ps : List Str} {ms : List Bool} {rm : Bool} {F : List D → Res D}
def isObj (n m : Str) : D → Res Unit
  | .obj c ns _ => if c = n ∧ m ∉ ns then .ok () else .bad
  | _ => .bad
def dMeth (n m : Str) (F : List D → Res D) (f1 : Rho → Res D) (fs : Rho → Res (List D)) : Rho → Res D := fun r => (f1 r).bind fun x => (isObj n m x).bind fun _ => (fs r).bind fun ds => F (x :: ds)
end
end Dx
end S_DxY
section S_DxZ
set_option Elab.async false
set_option linter.all false
set_option maxRecDepth 100000
set_option maxHeartbeats 2000000
namespace Dx
open PySem L2
section
variable {X : Cx} {c : Cf} {L G G' : List Ow} {f f1 f2 : Rho → Res D} {e e2 : Expr} {pos apos p : Pos} {fs : Rho → Res (List D)}
def enumS (d : D) : Res (List D) := (itemsS d).bind fun ds => .ok (numd 0 ds)
def pairs : List D → List D → List D
  | a :: as, b :: bs => .tup [a, b] :: pairs as bs
  | _, _ => []
def zipS : List D → Res (List D)
  | [.str x, .str y] => .ok (pairs (signs x) (signs y))
  | _ => .bad
def repS (x : Str) (n : Int) : Str := ⟨(List.replicate n.toNat x.cps.toList).flatten.toArray⟩
def rMulS : R2 := fun x y H Q => ∃ i j, x = .str i ∧ y = .int j ∧ j < 2 ^ 60 ∧ -(2 ^ 60) < j ∧ i.length * j.toNat ≤ sizeLine ∧ Q (.str (repS i j)) H
theorem repS_fold (x : Str) (n : Nat) (a : Array Nat) : (List.replicate n x.cps).foldl (· ++ ·) a = a ++ (List.replicate n x.cps.toList).flatten.toArray := by
  induction n generalizing a with
  | zero => simp
  | succ n ih => rw [List.replicate_succ, List.foldl_cons, ih, List.replicate_succ, List.flatten_cons]; apply Array.toList_inj.mp; simp
theorem op_mulS : OpR X (binaryOp .Mult) rMulS := by
  intro pins s σ H x y v u Q I rx ry h
  obtain ⟨i, j, rfl, rfl, h1, h2, hz, q⟩ := h
  obtain ⟨t, rfl⟩ := rx
  obtain ⟨t', rfl⟩ := ry
  have hz2 : (sizeLine : Nat) < 2 ^ 40 := by decide
  refine P.mul_str (by have a1 : ¬ j < -(2 ^ 63 : Int) := by omega
                       have a2 : ¬ j ≥ 2 ^ 63 := by omega
                       rw [decide_eq_false a1, decide_eq_false a2]; rfl) (fun hn hc => ?_) (fun hn hc => ?_) ?_
  · intro hgt
    have hj : 0 < j := by omega
    have h3 : (i.length : Int) * j ≤ sizeLine := by
      have : ((i.length * j.toNat : Nat) : Int) ≤ (sizeLine : Int) := by exact_mod_cast hz
      rw [Int.natCast_mul, Int.toNat_of_nonneg (by omega)] at this
      exact this
    have h4 : (2 ^ 63 - 1) / j + 1 ≤ (i.length : Int) := hgt
    have h5 : ((2 ^ 63 - 1) / j + 1) * j ≤ (i.length : Int) * j := Int.mul_le_mul_of_nonneg_right h4 (by omega)
    have h6 : (2 ^ 63 - 1) < ((2 ^ 63 - 1) / j + 1) * j := Int.lt_ediv_add_one_mul_self _ hj
    have h7 : ((sizeLine : Nat) : Int) < 2 ^ 40 := by exact_mod_cast hz2
    omega
  · exact decide_eq_false (Nat.not_lt.mpr hz)
  · have e1 : repS i j = ⟨(List.replicate j.toNat i.cps).foldl (· ++ ·) #[]⟩ := by
      unfold repS
      rw [repS_fold]; simp
    by_cases hn : j < 1
    · rw [if_pos hn]
      have : repS i j = Str.empty := by
        unfold repS
        rw [show j.toNat = 0 by omega]
        rfl
      rw [this] at q
      exact ⟨by decide, ⟨.str Str.empty, H, I.tok _, ⟨_, rfl⟩, q⟩⟩
    · rw [if_neg hn]
      by_cases hc : (j == 1 || i.length == 0) = true
      · rw [if_pos hc]
        have : repS i j = i := by
          rw [Bool.or_eq_true] at hc
          rcases hc with hc | hc
          · have : j = 1 := by simpa using hc
            subst this
            unfold repS
            apply Str.ext'
            simp
          · have h0 : i.cps.size = 0 := by have : i.length = 0 := by simpa using hc
                                           exact this
            have h0' : i.cps = #[] := Array.eq_empty_of_size_eq_zero h0
            unfold repS
            apply Str.ext'
            rw [h0']
            simp
        rw [this] at q
        exact ⟨.str i, H, I, ⟨_, rfl⟩, q⟩
      · rw [if_neg hc, ← e1]
        refine ⟨?_, ⟨.str (repS i j), H, I.tok _, ⟨_, rfl⟩, q⟩⟩
        have : (repS i j).length = i.length * j.toNat := by
          show (List.replicate j.toNat i.cps.toList).flatten.toArray.size = _
          rw [List.size_toArray, List.length_flatten, List.map_replicate, List.sum_replicate_nat, Array.length_toList, Nat.mul_comm]; rfl
        rw [this]; exact hz
noncomputable def mulX : D → D → Res D
  | .str a, .int k => guard (k < 2 ^ 60 ∧ -(2 ^ 60) < k ∧ a.length * k.toNat ≤ sizeLine) (.ok (.str (repS a k)))
  | x, y => mulD x y
def rMulY : R2 := fun x y H Q => rMulX x y H Q ∨ rMulS x y H Q
theorem or_mulX : OpR X (binaryOp .Mult) rMulY := or_mul.or op_mulS
theorem os_mulX : OpS c (mV c) rMulY mulX := by
  intro σ S H x y d e Q ex hx hy p
  unfold mulX at p
  split at p
  · cases hx.str; cases hy.int
    obtain ⟨⟨h1, h2, h3⟩, p⟩ := p.gd
    exact .inr ⟨_, _, rfl, rfl, h1, h2, h3, p.here ex (.str _)⟩
  · exact .inl (os_mul σ S H x y _ _ Q ex hx hy p)
variable {cpos : Pos}
end
end Dx
end S_DxZ
section S_DxO
set_option Elab.async false
set_option linter.all false
set_option maxRecDepth 100000
set_option maxHeartbeats 2000000
namespace Dx
open PySem L2 ItX
open PyProof.Rows hiding St
section
variable {X : Cx} {c : Cf} {L G G' : List Ow} {f f1 : Rho → Res D} {e o : Expr} {es : List Expr} {pos apos p : Pos} {fs : Rho → Res (List D)} {n : Str} {C : Addr} {F : List D → Res D} {ms : List Bool} {rm : Bool} {k : Nat} {fa : Addr} {fd : FuncData} {ps : List Str}
def dStar (f : Rho → Res D) (fs : Rho → Res (List D)) : Rho → Res (List D) := fun r => (f r).bind fun d => (items d).bind fun xs => (fs r).bind fun ys => .ok (xs ++ ys)
def zipL : List D → Res (List D)
  | [.lst x, .lst y] => .ok (pairs x y)
  | _ => .bad
end
end Dx
end S_DxO
section S_DxP
set_option Elab.async false
set_option linter.all false
set_option maxRecDepth 100000
set_option maxHeartbeats 2000000
namespace Dx
open PySem L2 ItX
open PyProof.Rows hiding St
end Dx
end S_DxP
section S_DxM
set_option Elab.async false
set_option linter.all false
set_option maxRecDepth 100000
namespace Dx
open PySem L2
def Rs {α : Type} (x : Res α) (Q : α → Prop) (E : Str → List Str → List D → Prop) : Prop := match x with
  | .ok a => Q a
  | .err n ns vs => E n ns vs
  | .bad => False
def nE : Str → List Str → List D → Prop := fun _ _ _ => False
def nE' : Rho → Str → List Str → List D → Prop := fun _ _ _ _ => False
def nR : Rho → Prop := fun _ => False
def Ss (o : SR) (N : Rho → Prop) (R : D → Prop) (B C : Rho → Prop) (E : Rho → Str → List Str → List D → Prop) : Prop := match o with
  | .nx r => N r
  | .rt d => R d
  | .bk r => B r
  | .ct r => C r
  | .er r n ns vs => E r n ns vs
  | .bad => False
section
variable {α β : Type} {Q Q' : α → Prop} {E E' : Str → List Str → List D → Prop}
theorem Rs.imp {x : Res α} (h : Rs x Q nE) (k : ∀ a, Q a → Q' a) : Rs x Q' E := by
  cases x with
  | ok a => exact k a h
  | err n ns vs => exact h.elim
  | bad => exact h.elim
theorem Rs.impE {x : Res α} (h : Rs x Q E) (k : ∀ a, Q a → Q' a) (l : ∀ n ns vs, E n ns vs → E' n ns vs) : Rs x Q' E' := by
  cases x with
  | ok a => exact k a h
  | err n ns vs => exact l _ _ _ h
  | bad => exact h.elim
theorem Rs.of {x : Res α} {a : α} (h : x = .ok a) (q : Q a) : Rs x Q E := by rw [h]; exact q
theorem Rs.ofE {x : Res α} {n : Str} {ns : List Str} {vs : List D} (h : x = .err n ns vs) (q : E n ns vs) : Rs x Q E := by rw [h]; exact q
theorem Rs.eq {x : Res α} {a : α} (h : Rs x (fun b => b = a) nE) : x = .ok a := by
  cases x with
  | ok b => exact congrArg _ h
  | err n ns vs => exact h.elim
  | bad => exact h.elim
theorem Rs.get {x : Res α} (h : Rs x Q nE) : ∃ a, x = .ok a ∧ Q a := by
  cases x with
  | ok a => exact ⟨a, rfl, h⟩
  | err n ns vs => exact h.elim
  | bad => exact h.elim
theorem Rs.errEq {x : Res α} {n : Str} {ns : List Str} {vs : List D} (h : Rs x (fun _ => False) fun a b c => a = n ∧ b = ns ∧ c = vs) : x = .err n ns vs := by
  cases x with
  | ok b => exact h.elim
  | err a b c => obtain ⟨rfl, rfl, rfl⟩ := h; rfl
  | bad => exact h.elim
theorem Rs.bind {x : Res β} {k : β → Res α} (h : Rs x (fun b => Rs (k b) Q E) E) : Rs (x.bind k) Q E := by
  cases x with
  | ok a => exact h
  | err n ns vs => exact h
  | bad => exact h
theorem rs_guard {p : Prop} {x : Res α} (h : p) (k : Rs x Q E) : Rs (guard p x) Q E := by rw [guard_pos h]; exact k
end
section
variable {Q : D → Prop} {E : Str → List Str → List D → Prop} {r : Rho} {f f1 f2 f3 : Rho → Res D} {fs : Rho → Res (List D)} {t u : Rho → Res Bool} {d : D} {i : Nat}
theorem rs_var (h : r[i]? = some (some d)) (q : Q d) : Rs (dVar i r) Q E := by unfold dVar; rw [h]; exact q
theorem rs_c (q : Q d) : Rs (dC d r) Q E := q
theorem rs_op {g : D → D → Res D} (h : Rs (f1 r) (fun a => Rs (f2 r) (fun b => Rs (g a b) Q E) E) E) : Rs (dOp g f1 f2 r) Q E := Rs.bind (h.impE (fun a q => Rs.bind q) fun _ _ _ z => z)
theorem rs_str {g : D → D → Res D} (h : Rs (f1 r) (fun a => Rs (asS a) (fun _ => Rs (f2 r) (fun b => Rs (g a b) Q E) E) E) E) : Rs (dStr g f1 f2 r) Q E := Rs.bind (h.impE (fun a q => Rs.bind (q.impE (fun _ q => Rs.bind q) fun _ _ _ z => z)) fun _ _ _ z => z)
theorem rs_asS {z : Str} {Q : Str → Prop} (q : Q z) : Rs (asS (.str z)) Q E := q
theorem rs_un {g : D → Res D} (h : Rs (f r) (fun a => Rs (g a) Q E) E) : Rs (dUn g f r) Q E := Rs.bind h
theorem rs_nil {Q : List D → Prop} (q : Q []) : Rs (dNil r) Q E := q
theorem rs_cons {Q : List D → Prop} (h : Rs (f r) (fun x => Rs (fs r) (fun xs => Q (x :: xs)) E) E) : Rs (dCons f fs r) Q E := Rs.bind (h.impE (fun a q => Rs.bind q) fun _ _ _ z => z)
theorem rs_call {g : List D → Res D} (h : Rs (fs r) (fun ds => Rs (g ds) Q E) E) : Rs (dCall g fs r) Q E := Rs.bind h
theorem rs_tup (h : Rs (fs r) (fun ds => ds.length ≤ sizeLine ∧ Q (.tup ds)) E) : Rs (dTup fs r) Q E := Rs.bind (h.impE (fun ds q => rs_guard q.1 q.2) fun _ _ _ z => z)
theorem rs_lst (h : Rs (fs r) (fun ds => ds.length ≤ sizeLine ∧ Q (.lst ds)) E) : Rs (dLst fs r) Q E := Rs.bind (h.impE (fun ds q => rs_guard q.1 q.2) fun _ _ _ z => z)
theorem rs_T {Q : Bool → Prop} (h : Rs (f r) (fun d => Rs (asB d) Q E) E) : Rs (dT f r) Q E := Rs.bind h
theorem rs_asB {b : Bool} {Q : Bool → Prop} (q : Q b) : Rs (asB (.bl b)) Q E := q
theorem rs_asI {b : Int} {Q : Int → Prop} (q : Q b) : Rs (asI (.int b)) Q E := q
theorem rs_not {Q : Bool → Prop} (h : Rs (t r) (fun b => Q (!b)) E) : Rs (dNot t r) Q E := Rs.bind h
theorem rs_and {Q : Bool → Prop} (h : Rs (t r) (fun a => Rs (u r) (fun b => Q (a && b)) nE) E) : Rs (dAnd t u r) Q E := Rs.bind (h.impE (fun a q => by
  cases a
  · obtain ⟨b, _, q⟩ := q.get
    exact q
  · exact q.impE (fun _ z => z) fun _ _ _ z => z.elim) fun _ _ _ z => z)
theorem rs_or {Q : Bool → Prop} (h : Rs (t r) (fun a => Rs (u r) (fun b => Q (a || b)) nE) E) : Rs (dOr t u r) Q E := Rs.bind (h.impE (fun a q => by
  cases a
  · exact q.impE (fun _ z => z) fun _ _ _ z => z.elim
  · obtain ⟨b, _, q⟩ := q.get
    exact q) fun _ _ _ z => z)
theorem rs_andc {Q : Bool → Prop} (h : Rs (t r) (fun a => (a = true → Rs (u r) Q E) ∧ (a = false → Q false)) E) : Rs (dAnd t u r) Q E := Rs.bind (h.impE (fun a q => by
  cases a
  · exact q.2 rfl
  · exact q.1 rfl) fun _ _ _ z => z)
theorem rs_orc {Q : Bool → Prop} (h : Rs (t r) (fun a => (a = true → Q true) ∧ (a = false → Rs (u r) Q E)) E) : Rs (dOr t u r) Q E := Rs.bind (h.impE (fun a q => by
  cases a
  · exact q.2 rfl
  · exact q.1 rfl) fun _ _ _ z => z)
theorem rs_andV (h : Rs (f1 r) (fun a => Rs (asB a) (fun a => Rs (f2 r) (fun b => Rs (asB b) (fun b => Q (.bl (a && b))) nE) nE) E) E) : Rs (dAndV f1 f2 r) Q E := Rs.bind (h.impE (fun a q => Rs.bind (q.impE (fun a q => by
  obtain ⟨b, e, q⟩ := q.get
  cases b with
  | bl b =>
    cases a
    · exact q
    · exact Rs.of e q
  | _ => exact q.elim) fun _ _ _ z => z)) fun _ _ _ z => z)
theorem rs_orV (h : Rs (f1 r) (fun a => Rs (asB a) (fun a => Rs (f2 r) (fun b => Rs (asB b) (fun b => Q (.bl (a || b))) nE) nE) E) E) : Rs (dOrV f1 f2 r) Q E := Rs.bind (h.impE (fun a q => Rs.bind (q.impE (fun a q => by
  obtain ⟨b, e, q⟩ := q.get
  cases b with
  | bl b =>
    cases a
    · exact Rs.of e q
    · exact q
  | _ => exact q.elim) fun _ _ _ z => z)) fun _ _ _ z => z)
theorem rs_andVc (h : Rs (f1 r) (fun a => Rs (asB a) (fun a => (a = true → Rs (f2 r) Q E) ∧ (a = false → Q (.bl false))) E) E) : Rs (dAndV f1 f2 r) Q E := Rs.bind (h.impE (fun a q => Rs.bind (q.impE (fun a q => by
  cases a
  · exact q.2 rfl
  · exact q.1 rfl) fun _ _ _ z => z)) fun _ _ _ z => z)
theorem rs_orVc (h : Rs (f1 r) (fun a => Rs (asB a) (fun a => (a = true → Q (.bl true)) ∧ (a = false → Rs (f2 r) Q E)) E) E) : Rs (dOrV f1 f2 r) Q E := Rs.bind (h.impE (fun a q => Rs.bind (q.impE (fun a q => by
  cases a
  · exact q.2 rfl
  · exact q.1 rfl) fun _ _ _ z => z)) fun _ _ _ z => z)
theorem rs_notV (h : Rs (f r) (fun a => Rs (asB a) (fun b => Q (.bl (!b))) E) E) : Rs (dNotV f r) Q E := Rs.bind (h.impE (fun a q => Rs.bind q) fun _ _ _ z => z)
theorem rs_ifx {α : Type} {Q : α → Prop} {f g : Rho → Res α} (h : Rs (t r) (fun b => (b = true → Rs (f r) Q E) ∧ (b = false → Rs (g r) Q E)) E) : Rs (dIf t f g r) Q E := Rs.bind (h.impE (fun a q => by
  cases a
  · exact q.2 rfl
  · exact q.1 rfl) fun _ _ _ z => z)
theorem rs_tru {Q : Bool → Prop} (h : Rs (f r) (fun d => Rs (truB d) Q E) E) : Rs (dTru f r) Q E := Rs.bind h
theorem rs_truB {b : Bool} {Q : Bool → Prop} (q : Q b) : Rs (truB (.bl b)) Q E := q
theorem rs_truI {b : Int} {Q : Bool → Prop} (q : Q (b != 0)) : Rs (truB (.int b)) Q E := q
theorem rs_truL {ds : List D} {Q : Bool → Prop} (q : Q (!ds.isEmpty)) : Rs (truB (.lst ds)) Q E := q
theorem rs_truT {ds : List D} {Q : Bool → Prop} (q : Q (!ds.isEmpty)) : Rs (truB (.tup ds)) Q E := q
theorem rs_truN {Q : Bool → Prop} (q : Q false) : Rs (truB .non) Q E := q
theorem rs_chain {g g' : D → D → Res D} (h : Rs (f1 r) (fun x => Rs (f2 r) (fun y => Rs (g x y) (fun z => Rs (asB z) (fun a => Rs (f3 r) (fun w => Rs (g' y w) (fun e => Rs (asB e) (fun b => Q (.bl (a && b))) nE) nE) nE) E) E) E) E) : Rs (dChain g g' f1 f2 f3 r) Q E :=
  Rs.bind (h.impE (fun x q => Rs.bind (q.impE (fun y q => Rs.bind (q.impE (fun z q => Rs.bind (q.impE (fun a q => by
    obtain ⟨w, e1, q⟩ := q.get
    obtain ⟨e, e2, q⟩ := q.get
    cases e with
    | bl b =>
      cases a
      · exact q
      · exact Rs.bind (Rs.of e1 (Rs.of e2 q))
    | _ => exact q.elim) fun _ _ _ z => z)) fun _ _ _ z => z)) fun _ _ _ z => z)) fun _ _ _ z => z)
theorem rs_noP {Q : Option Int → Prop} (q : Q none) : Rs (dNoP r) Q E := q
theorem rs_part {Q : Option Int → Prop} (h : Rs (f r) (fun d => Rs (asI d) (fun i => Q (some i)) E) E) : Rs (dPart f r) Q E := Rs.bind (h.impE (fun a q => Rs.bind q) fun _ _ _ z => z)
theorem rs_sl {g : D → Option Int → Option Int → Res D} {fl fh : Rho → Res (Option Int)} (h : Rs (f r) (fun d => Rs (fl r) (fun l => Rs (fh r) (fun k => Rs (g d l k) Q E) E) E) E) : Rs (dSl g f fl fh r) Q E := Rs.bind (h.impE (fun a q => Rs.bind (q.impE (fun _ q => Rs.bind q) fun _ _ _ z => z)) fun _ _ _ z => z)
theorem rs_it {g : D → Res (List D)} {Q : List D → Prop} (h : Rs (f r) (fun d => Rs (g d) Q E) E) : Rs (dIt g f r) Q E := Rs.bind h
theorem rs_its {g : List D → Res (List D)} {Q : List D → Prop} (h : Rs (fs r) (fun d => Rs (g d) Q E) E) : Rs (dIts g fs r) Q E := Rs.bind h
theorem rs_yes {Q : Bool → Prop} (q : Q true) : Rs (dYes r) Q E := q
theorem rs_meth {n m : Str} {F : List D → Res D} (h : Rs (f r) (fun x => Rs (isObj n m x) (fun _ => Rs (fs r) (fun ds => Rs (F (x :: ds)) Q E) E) E) E) : Rs (dMeth n m F f fs r) Q E := Rs.bind (h.impE (fun a q => Rs.bind (q.impE (fun _ q => Rs.bind q) fun _ _ _ z => z)) fun _ _ _ z => z)
theorem rs_isObj {n m : Str} {ns : List Str} {vs : List D} {Q : Unit → Prop} (h : m ∉ ns) (q : Q ()) : Rs (isObj n m (.obj n ns vs)) Q E := by
  show Rs (if n = n ∧ m ∉ ns then .ok () else .bad) Q E
  rw [if_pos ⟨rfl, h⟩]; exact q
theorem rs_fld {n fl : Str} {ns : List Str} {vs : List D} (h : lookF ns vs fl = some d) (q : Q d) : Rs (fldD n fl (.obj n ns vs)) Q E := by
  show Rs (if n = n then (match lookF ns vs fl with | some d => .ok d | none => .bad) else .bad) Q E
  rw [if_pos rfl, h]; exact q
end
abbrev Sg (l : List Nat) : Str := ⟨l.toArray⟩
theorem ST_len (l : List Nat) : (Sg l).length = l.length := by simp [Sg, Str.length]
theorem ST_app (a b : List Nat) : Sg a ++ Sg b = Sg (a ++ b) := TL.ext_tl (by rw [TL.tl_append])
theorem ST_inj {a b : List Nat} : Sg a = Sg b ↔ a = b := ⟨fun h => congrArg TL.tl h, fun h => by rw [h]⟩
theorem ST_dec (a b : List Nat) : decide (Sg a = Sg b) = decide (a = b) := by
  by_cases h : a = b
  · subst h; simp
  · simp [h, ST_inj]
section
variable {Q : D → Prop} {E : Str → List Str → List D → Prop} {i j : Int} {a b : List Nat} {ds es : List D} {d e : D}
theorem rs_add (q : Q (.int (i + j))) : Rs (addD (.int i) (.int j)) Q E := q
theorem rs_addS (h : a.length + b.length ≤ sizeLine) (q : Q (.str (Sg (a ++ b)))) : Rs (addD (.str (Sg a)) (.str (Sg b))) Q E := rs_guard (by rw [ST_len, ST_len]; exact h) (by rw [ST_app]; exact q)
theorem rs_addT (h : ds.length + es.length ≤ sizeLine) (q : Q (.tup (ds ++ es))) : Rs (addD (.tup ds) (.tup es)) Q E := rs_guard h q
theorem rs_addLL (h : ds.length + es.length ≤ sizeLine) (q : Q (.lst (ds ++ es))) : Rs (addD (.lst ds) (.lst es)) Q E := rs_guard h q
theorem rs_addLO (h : ds.length + es.length ≤ sizeLine) (q : Q (.lst (ds ++ es))) : Rs (addL (.lst ds) (.lst es)) Q E := rs_guard h q
theorem rs_sub (q : Q (.int (i - j))) : Rs (subD (.int i) (.int j)) Q E := q
theorem rs_neg (q : Q (.int (-i))) : Rs (negD (.int i)) Q E := q
theorem rs_mul (h : smallI i ∨ smallI j) (q : Q (.int (i * j))) : Rs (mulX (.int i) (.int j)) Q E := rs_guard h q
theorem rs_mulS (h : j < 2 ^ 60 ∧ -(2 ^ 60) < j ∧ a.length * j.toNat ≤ sizeLine) (q : Q (.str (Sg (List.replicate j.toNat a).flatten))) : Rs (mulX (.str (Sg a)) (.int j)) Q E := rs_guard (by rw [ST_len]; exact h) q
theorem rs_mulL (h : 0 ≤ j ∧ j < 2 ^ 60 ∧ ds.length * j.toNat ≤ sizeLine) (q : Q (.lst (List.replicate j.toNat ds).flatten)) : Rs (mulX (.lst ds) (.int j)) Q E := rs_guard h q
theorem rs_fdiv (h : 0 < j ∧ j < 4611686018427387904) (q : Q (.int (i / j))) : Rs (fdivD (.int i) (.int j)) Q E := by
  show Rs (if 0 < j then guard (j < 4611686018427387904) (.ok (.int (i / j))) else _) Q E
  rw [if_pos h.1]; exact rs_guard h.2 q
theorem rs_mod (h : 0 < j) (q : Q (.int (i % j))) : Rs (modD (.int i) (.int j)) Q E := rs_guard h q
theorem rs_eqI (q : Q (.bl (decide (i = j)))) : Rs (eqD (.int i) (.int j)) Q E := q
theorem rs_neI (q : Q (.bl (!decide (i = j)))) : Rs (neD (.int i) (.int j)) Q E := q
theorem rs_eqS (q : Q (.bl (decide (a = b)))) : Rs (eqD (.str (Sg a)) (.str (Sg b))) Q E := by
  show Q (.bl (decide (Sg a = Sg b)))
  rw [ST_dec]; exact q
theorem rs_neS (q : Q (.bl (!decide (a = b)))) : Rs (neD (.str (Sg a)) (.str (Sg b))) Q E := by
  show Q (.bl (!decide (Sg a = Sg b)))
  rw [ST_dec]; exact q
theorem rs_eqB {x y : Bool} (q : Q (.bl (decide (x = y)))) : Rs (eqD (.bl x) (.bl y)) Q E := q
theorem rs_neB {x y : Bool} (q : Q (.bl (!decide (x = y)))) : Rs (neD (.bl x) (.bl y)) Q E := q
theorem rs_lt (q : Q (.bl (decide (i < j)))) : Rs (ltD (.int i) (.int j)) Q E := q
theorem rs_le (q : Q (.bl (decide (i ≤ j)))) : Rs (leD (.int i) (.int j)) Q E := q
theorem rs_gt (q : Q (.bl (decide (j < i)))) : Rs (gtD (.int i) (.int j)) Q E := q
theorem rs_ge (q : Q (.bl (decide (j ≤ i)))) : Rs (geD (.int i) (.int j)) Q E := q
theorem rs_is (q : Q (.bl (isN d))) : Rs (isD false d .non) Q E := q
theorem rs_isn (q : Q (.bl (!isN d))) : Rs (isD true d .non) Q E := q
theorem rs_inS {n : Nat} (q : Q (.bl (decide (n ∈ b)))) : Rs (inD (.str (Sg [n])) (.str (Sg b))) Q E := q
theorem rs_ninS {n : Nat} (q : Q (.bl (!decide (n ∈ b)))) : Rs (ninD (.str (Sg [n])) (.str (Sg b))) Q E := q
theorem rs_lenS (h : a.length ≤ sizeLine) (q : Q (.int a.length)) : Rs (g1 lenD [.str (Sg a)]) Q E := rs_guard (by rw [ST_len]; exact h) (by show Q _; rw [ST_len]; exact q)
theorem rs_lenL (q : Q (.int ds.length)) : Rs (g1 lenD [.lst ds]) Q E := q
theorem rs_lenF (q : Q (.int ds.length)) : Rs (g1 lenD [.fz ds]) Q E := q
theorem rs_lenT (q : Q (.int ds.length)) : Rs (g1 lenD [.tup ds]) Q E := q
theorem rs_int (q : Q (.int i)) : Rs (g1 intD [.int i]) Q E := q
theorem rs_intB {x : Bool} (q : Q (.int (if x then 1 else 0))) : Rs (g1 intD [.bl x]) Q E := q
theorem rs_abs (q : Q (.int (if i < 0 then -i else i))) : Rs (g1 absD [.int i]) Q E := q
theorem rs_listL (q : Q (.lst ds)) : Rs (g1 listD [.lst ds]) Q E := q
theorem rs_listT (q : Q (.lst ds)) : Rs (g1 listD [.tup ds]) Q E := q
theorem rs_tupL (q : Q (.tup ds)) : Rs (g1 tupleD [.lst ds]) Q E := q
theorem rs_tupT (q : Q (.tup ds)) : Rs (g1 tupleD [.tup ds]) Q E := q
theorem rs_ixL (h : atI ds i = some d) (q : Q d) : Rs (ixD (.lst ds) (.int i)) Q E := by
  show Rs (match atI ds i with | some d => Res.ok d | none => Res.bad) Q E
  rw [h]; exact q
theorem rs_ixF (h : atI ds i = some d) (q : Q d) : Rs (ixD (.fz ds) (.int i)) Q E := by
  show Rs (match atI ds i with | some d => Res.ok d | none => Res.bad) Q E
  rw [h]; exact q
theorem rs_ixT (h : atI ds i = some d) (q : Q d) : Rs (ixD (.tup ds) (.int i)) Q E := by
  show Rs (match atI ds i with | some d => Res.ok d | none => Res.bad) Q E
  rw [h]; exact q
theorem rs_ixS {n : Nat} (h : a.length ≤ sizeLine ∧ atI a i = some n) (q : Q (.str (Sg [n]))) : Rs (ixD (.str (Sg a)) (.int i)) Q E := rs_guard (by rw [ST_len]; exact h.1) (by
  show Rs (match atI a i with | some n => Res.ok (D.str ⟨#[n]⟩) | none => Res.bad) Q E
  rw [h.2]; exact q)
theorem rs_slL {lo hi : Option Int} (q : Q (.lst (cutL ds lo hi))) : Rs (slD (.lst ds) lo hi) Q E := q
theorem rs_slO {lo hi : Option Int} (q : Q (.lst (cutL ds lo hi))) : Rs (slL (.lst ds) lo hi) Q E := q
theorem rs_slT {lo hi : Option Int} (q : Q (.tup (cutL ds lo hi))) : Rs (slD (.tup ds) lo hi) Q E := q
theorem cutS_ST {lo hi : Option Int} : cutS (Sg a) lo hi = Sg (cutL a lo hi) := by
  unfold cutS cutL
  rw [ST_len]
theorem rs_slS {lo hi : Option Int} (h : a.length ≤ sizeLine) (q : Q (.str (Sg (cutL a lo hi)))) : Rs (slD (.str (Sg a)) lo hi) Q E := rs_guard (by rw [ST_len]; exact h) (by rw [cutS_ST]; exact q)
theorem rs_rng1 {n : Nat} {Q : List D → Prop} (h : n < 4611686018427387904) (q : Q (rngL 0 n)) : Rs (rng1 [.int (n : Int)]) Q E := rs_guard (by omega) (by rw [Int.toNat_natCast]; exact q)
theorem rs_itsL {Q : List D → Prop} (q : Q ds) : Rs (itemsL (.lst ds)) Q E := q
theorem rs_itsT {Q : List D → Prop} (q : Q ds) : Rs (itemsT (.tup ds)) Q E := q
theorem rs_itsS {Q : List D → Prop} (q : Q (a.map fun n => .str (Sg [n]))) : Rs (itemsS (.str (Sg a))) Q E := q
theorem rs_enL {Q : List D → Prop} (q : Q (numd 0 ds)) : Rs (enumL (.lst ds)) Q E := q
theorem rs_enT {Q : List D → Prop} (q : Q (numd 0 ds)) : Rs (enumT (.tup ds)) Q E := q
theorem rs_enS {Q : List D → Prop} (q : Q (numd 0 (a.map fun n => .str (Sg [n])))) : Rs (enumS (.str (Sg a))) Q E := q
theorem rs_isi {T n : String} {b : Bool} (h1 : tyN d = some n) (h2 : kitB n T = some b) (q : Q (.bl b)) : Rs (isiD T d) Q E := by unfold isiD; rw [h1]; dsimp only; rw [h2]; exact q
end
section
variable {N B C : Rho → Prop} {R : D → Prop} {E : Rho → Str → List Str → List D → Prop} {r : Rho} {f f1 f2 fi : Rho → Res D} {fs : Rho → Res (List D)} {t : Rho → Res Bool} {d : D} {F K : Rho → SR} {i j : Nat}
theorem Ss.imp {N' B' C' : Rho → Prop} {R' : D → Prop} {E' : Rho → Str → List Str → List D → Prop} {o : SR} (h : Ss o N R B C E) (hn : ∀ r, N r → N' r) (hr : ∀ d, R d → R' d) (hb : ∀ r, B r → B' r) (hc : ∀ r, C r → C' r) (he : ∀ r n ns vs, E r n ns vs → E' r n ns vs) : Ss o N' R' B' C' E' := by
  cases o with
  | nx r => exact hn _ h
  | rt d => exact hr _ h
  | bk r => exact hb _ h
  | ct r => exact hc _ h
  | er r n ns vs => exact he _ _ _ _ h
  | bad => exact h
theorem ss_nx (h : N r) : Ss (.nx r) N R B C E := h
theorem ss_bk (h : B r) : Ss (.bk r) N R B C E := h
theorem ss_ct (h : C r) : Ss (.ct r) N R B C E := h
theorem ss_lift {α : Type} {x : Res α} {k : α → SR} (h : Rs x (fun a => Ss (k a) N R B C E) (E r)) : Ss (liftS r x k) N R B C E := by
  cases x with
  | ok a => exact h
  | err n ns vs => exact h
  | bad => exact h
theorem ss_seq (h : Ss (F r) (fun r' => Ss (K r') N R B C E) R B C E) : Ss (seqF F K r) N R B C E := by
  unfold seqF
  cases e : F r with
  | nx r' => rw [e] at h; exact h
  | rt d => rw [e] at h; exact h
  | bk r => rw [e] at h; exact h
  | ct r => rw [e] at h; exact h
  | er r n ns vs => rw [e] at h; exact h
  | bad => rw [e] at h; exact h
theorem ss_set (h : Rs (f r) (fun d => N (r.set i (some d))) (E r)) : Ss (setF i f r) N R B C E := ss_lift h
theorem ss_ret (h : Rs (f r) R (E r)) : Ss (retF f r) N R B C E := ss_lift h
theorem ss_drop (h : Rs (f r) (fun _ => N r) (E r)) : Ss (dropF f r) N R B C E := ss_lift h
theorem ss_if (h : Rs (t r) (fun b => (b = true → Ss (F r) N R B C E) ∧ (b = false → Ss (K r) N R B C E)) (E r)) : Ss (ifF t F K r) N R B C E := ss_lift (h.impE (fun b q => by
  cases b
  · exact q.2 rfl
  · exact q.1 rfl) fun _ _ _ z => z)
theorem ss_app {ds : List D} (h1 : r[i]? = some (some (.lst ds))) (h : Rs (f r) (fun d => ds.length < sizeLine ∧ N (r.set i (some (.lst (ds ++ [d]))))) (E r)) : Ss (appF i f r) N R B C E := by
  unfold appF
  refine ss_lift (Rs.of (a := ds) (by unfold ownL; rw [h1]) (ss_lift (h.impE (fun d q => ?_) fun _ _ _ z => z)))
  rw [guardS_pos q.1]; exact q.2
theorem ss_asg {tg : D → Rho → Res Rho} (h : Rs (f r) (fun d => ∃ r', tg d r = .ok r' ∧ N r') (E r)) : Ss (asgF tg f r) N R B C E := ss_lift (h.impE (fun d q => by
  obtain ⟨r', e, q⟩ := q
  rw [e]; exact q) fun _ _ _ z => z)
theorem ss_par (h : Rs (f1 r) (fun d => Rs (f2 r) (fun e => N ((r.set i (some d)).set j (some e))) (E r)) (E r)) : Ss (parF i j f1 f2 r) N R B C E := ss_lift (rs_cons (h.impE (fun d q => rs_cons (q.impE (fun e q => rs_nil q) fun _ _ _ z => z)) fun _ _ _ z => z))
theorem ss_aug {g : D → D → Res D} (h : Rs (dVar i r) (fun x => Rs (f r) (fun y => Rs (g x y) (fun z => N (r.set i (some z))) (E r)) (E r)) (E r)) : Ss (augF i g f r) N R B C E := ss_lift (h.impE (fun x q => ss_lift (q.impE (fun y q => ss_lift q) fun _ _ _ z => z)) fun _ _ _ z => z)
theorem rs_ints {g : Int → Int → Int} {Q : D → Prop} {E : Str → List Str → List D → Prop} {i j : Int} (q : Q (.int (g i j))) : Rs (intsD g (.int i) (.int j)) Q E := q
theorem ss_raise {n : Str} {ns : List Str} {rev : Bool} (h : Rs (fs r) (fun ds => ds.length = ns.length ∧ E r n ns (if rev then ds.reverse else ds)) (E r)) : Ss (raiF n ns rev fs r) N R B C E := ss_lift (h.impE (fun ds q => by
  rw [if_pos q.1]; exact q.2) fun _ _ _ z => z)
theorem ss_sto {ds : List D} {k : Int} {n : Nat} (h : Rs (f r) (fun d => r[i]? = some (some (.lst ds)) ∧ Rs (fi r) (fun x => x = .int k ∧ ixN ds.length k = some n ∧ N (r.set i (some (.lst (ds.set n d))))) (E r)) (E r)) : Ss (stoF i fi f r) N R B C E := ss_lift (h.impE (fun d q => ss_lift (Rs.of (a := ds) (by unfold ownL; rw [q.1]) (ss_lift (q.2.impE (fun x q => by
  obtain ⟨rfl, h2, h3⟩ := q
  refine ss_lift ?_
  show Ss (match ixN ds.length k with | some j => SR.nx (r.set i (some (.lst (ds.set j d)))) | none => .bad) N R B C E
  rw [h2]; exact h3) fun _ _ _ z => z)))) fun _ _ _ z => z)
theorem ss_cut {N' : Rho → Prop} {o : SR} (M : Rho → Prop) (h : Ss o M R B C E) (k : ∀ r, M r → N' r) : Ss o N' R B C E := h.imp k (fun _ z => z) (fun _ z => z) (fun _ z => z) fun _ _ _ _ z => z
theorem ss_loop {tg : D → Rho → Res Rho} (I : Nat → Rho → Prop) : ∀ (ds : List D) (k : Nat) (r : Rho), I k r →
    (∀ i d r, ds[i]? = some d → I (k + i) r → ∃ r1, tg d r = .ok r1 ∧ Ss (F r1) (I (k + i + 1)) R N (I (k + i + 1)) E) → (∀ r, I (k + ds.length) r → N r) → Ss (loopF tg F ds r) N R B C E
  | [], k, r, h0, _, he => he r h0
  | d :: ds, k, r, h0, hs, he => by
    obtain ⟨r1, e1, h1⟩ := hs 0 d r rfl h0
    have go : ∀ r2, I (k + 1) r2 → Ss (loopF tg F ds r2) N R B C E := fun r2 h2 => ss_loop I ds (k + 1) r2 h2 (fun i d r h hi => by
      have z := hs (i + 1) d r (by simpa using h) (by rw [show k + (i + 1) = k + 1 + i from by omega]; exact hi)
      rw [show k + (i + 1) = k + 1 + i from by omega] at z
      exact z) fun r h => he r (by rw [List.length_cons, show k + (ds.length + 1) = k + 1 + ds.length from by omega]; exact h)
    rw [loopF, e1]
    dsimp only
    cases e : F r1 with
    | nx r2 => rw [e] at h1; exact go r2 h1
    | ct r2 => rw [e] at h1; exact go r2 h1
    | bk r2 => rw [e] at h1; exact h1
    | rt d => rw [e] at h1; exact h1
    | er r n ns vs => rw [e] at h1; exact h1
    | bad => rw [e] at h1; exact h1
/-- a for, by an invariant at each number of items -/
theorem ss_for {its : Rho → Res (List D)} {tg : D → Rho → Res Rho} (I : Nat → Rho → Prop) (h : Rs (its r) (fun ds => I 0 r ∧ (∀ i d r, ds[i]? = some d → I i r → ∃ r1, tg d r = .ok r1 ∧ Ss (F r1) (I (i + 1)) R N (I (i + 1)) E) ∧ ∀ r, I ds.length r → N r) (E r)) : Ss (forF its tg F r) N R B C E :=
  ss_lift (h.impE (fun ds q => ss_loop I ds 0 r q.1 (fun i d r h1 h2 => by
    have z := q.2.1 i d r h1 (by rw [Nat.zero_add] at h2; exact h2)
    rw [Nat.zero_add]; exact z) fun r h => q.2.2 r (by rw [Nat.zero_add] at h; exact h)) fun _ _ _ z => z)
theorem rngL_get {a : Int} {n i : Nat} {d : D} (h : (rngL a n)[i]? = some d) : i < n ∧ d = .int (a + (i : Int)) := by
  unfold rngL at h
  rw [List.getElem?_map] at h
  by_cases hi : i < n
  · rw [List.getElem?_range hi] at h
    cases h
    exact ⟨hi, rfl⟩
  · rw [List.getElem?_eq_none (by simp; omega)] at h
    cases h
theorem rngL_len (a : Int) (n : Nat) : (rngL a n).length = n := by unfold rngL; simp
/-- for k in range(n) -/
theorem ss_rng {m : Nat} (n : Nat) (I : Nat → Rho → Prop) (h : Rs (f r) (fun d => d = .int (n : Int)) (E r)) (hn : n < 4611686018427387904) (h0 : I 0 r) (hs : ∀ i r, i < n → I i r → Ss (F (r.set m (some (.int (i : Int))))) (I (i + 1)) R N (I (i + 1)) E) (he : ∀ r, I n r → N r) : Ss (forF (dIts rng1 (dCons f dNil)) (tgN m) F r) N R B C E :=
  ss_for I (rs_its (rs_cons (h.impE (fun d q => by
    subst q
    refine rs_nil (rs_rng1 hn ⟨h0, fun i d r h1 h2 => ?_, fun r h => he r (by rw [rngL_len] at h; exact h)⟩)
    obtain ⟨h3, rfl⟩ := rngL_get h1
    exact ⟨_, rfl, by rw [Int.zero_add]; exact hs i r h3 h2⟩) fun _ _ _ z => z)))
theorem ss_while (n : Nat) (I : Nat → Rho → Prop) (hs : ∀ k r, I k r → Rs (t r) (fun b => (b = true → Ss (F r) (fun r' => ∃ k', k' < k ∧ I k' r') R N (fun r' => ∃ k', k' < k ∧ I k' r') E) ∧ (b = false → N r)) (E r)) : ∀ (k : Nat) (r : Rho), k < n → I k r → Ss (whileN t F n r) N R B C E := by
  induction n with
  | zero => intro k r h; omega
  | succ n ih =>
    intro k r hk h0
    rw [whileN]
    refine ss_lift ((hs k r h0).impE (fun b q => ?_) fun _ _ _ z => z)
    cases b with
    | false => exact q.2 rfl
    | true =>
      have q1 := q.1 rfl
      show Ss (if true = true then _ else _) N R B C E
      rw [if_pos rfl]
      cases e : F r with
      | nx r2 => rw [e] at q1; obtain ⟨k', h1, h2⟩ := q1; exact ih k' r2 (by omega) h2
      | ct r2 => rw [e] at q1; obtain ⟨k', h1, h2⟩ := q1; exact ih k' r2 (by omega) h2
      | bk r2 => rw [e] at q1; exact q1
      | rt d => rw [e] at q1; exact q1
      | er r n ns vs => rw [e] at q1; exact q1
      | bad => rw [e] at q1; exact q1
end
section
variable {Q : D → Prop} {E : Str → List Str → List D → Prop} {r : Rho} {f : Rho → Res D} {its : Rho → Res (List D)} {tg : D → Rho → Res Rho} {tt : Rho → Res Bool} {fe : Rho → Res D} {vs : List Nat}
theorem lc_mapX {α : Type} (c g : α → D) {rw : Rho} : ∀ xs : List α, (∀ x ∈ xs, ∃ r1, tg (c x) rw = .ok r1 ∧ tt r1 = .ok true ∧ Rs (fe r1) (fun e => e = g x) nE) → lcLoop tg tt fe rw (xs.map c) = .ok (xs.map g)
  | [], _ => rfl
  | x :: xs, h => by
    obtain ⟨r1, h1, h2, h3⟩ := h x (by simp)
    rw [List.map_cons, lcLoop, h1]
    dsimp only
    rw [h2]
    dsimp only
    rw [h3.eq]
    dsimp only
    rw [lc_mapX c g xs fun y hy => h y (by simp [hy])]
    rfl
theorem rs_lc {α : Type} (c g : α → D) (xs : List α) (hi : Rs (its r) (fun ds => ds = xs.map c) E) (hl : xs.length ≤ sizeLine) (hs : ∀ x ∈ xs, ∃ r1, tg (c x) (wipeR r vs) = .ok r1 ∧ tt r1 = .ok true ∧ Rs (fe r1) (fun e => e = g x) nE) (q : Q (.lst (xs.map g))) : Rs (dLc its tg tt fe vs r) Q E :=
  Rs.bind (hi.impE (fun ds e => by
    subst e
    refine rs_guard (by rw [List.length_map]; exact hl) ?_
    rw [lc_mapX c g xs hs]; exact q) fun _ _ _ z => z)
theorem rs_run {n : Nat} {F : Rho → SR} {as : List D} (h : Ss (F (startR n as)) (fun _ => Q .non) Q nR nR (fun _ => E)) : Rs (runF n false F as) Q E := by
  unfold runF
  cases e : F (startR n as) with
  | nx r => rw [e] at h; exact h
  | rt d => rw [e] at h; exact h
  | bk r => rw [e] at h; exact h.elim
  | ct r => rw [e] at h; exact h.elim
  | er r n ns vs => rw [e] at h; exact h
  | bad => rw [e] at h; exact h.elim
/-- a try -/
theorem ss_try {isM : Str → Option Bool} {i : Nat} {Fb Fs : Rho → SR} {N B C : Rho → Prop} {R : D → Prop} {E : Rho → Str → List Str → List D → Prop} (h : Ss (Fb r) N R B C fun r' n ns vs => isM n = some true ∧ Ss (Fs (r'.set i (some (.obj n ns vs)))) (fun r => N (r.set i none)) R (fun r => B (r.set i none)) (fun r => C (r.set i none)) nE') : Ss (tryF isM i Fb Fs r) N R B C E := by
  unfold tryF
  cases e : Fb r with
  | nx r => rw [e] at h; exact h
  | rt d => rw [e] at h; exact h
  | bk r => rw [e] at h; exact h
  | ct r => rw [e] at h; exact h
  | bad => rw [e] at h; exact h
  | er r' n ns vs =>
    rw [e] at h
    obtain ⟨h1, h2⟩ := h
    dsimp only
    rw [h1]
    dsimp only
    cases e2 : Fs (r'.set i (some (.obj n ns vs))) with
    | nx r => rw [e2] at h2; exact h2
    | rt d => rw [e2] at h2; exact h2
    | bk r => rw [e2] at h2; exact h2
    | ct r => rw [e2] at h2; exact h2
    | bad => rw [e2] at h2; exact h2
    | er r n ns vs => rw [e2] at h2; exact h2.elim
end
end Dx
namespace Dx
open PySem L2
theorem sz5 : (100000 : Nat) ≤ sizeLine := by decide
theorem small_of {i : Int} (h : -1000000000000 < i) (h' : i < 1000000000000) : smallI i := by unfold smallI; omega
def Fit : List Int → List Int → Prop
  | [], [] => True
  | v :: vs, l :: ls => 0 ≤ v ∧ v < l ∧ Fit vs ls
  | _, _ => False
theorem Fit.cons {vs : List Int} {l : Int} {ls : List Int} (h : Fit vs (l :: ls)) : ∃ v us, vs = v :: us ∧ 0 ≤ v ∧ v < l ∧ Fit us ls := by
  cases vs with
  | nil => exact h.elim
  | cons v us => exact ⟨v, us, rfl, h⟩
theorem Fit.nil {vs : List Int} (h : Fit vs []) : vs = [] := by
  cases vs with
  | nil => rfl
  | cons v us => exact h.elim
theorem Fit.len : ∀ {vs ls : List Int}, Fit vs ls → vs.length = ls.length
  | [], [], _ => rfl
  | v :: vs, l :: ls, h => by simp [Fit.len h.2.2]
  | [], _ :: _, h => h.elim
  | _ :: _, [], h => h.elim
theorem Fit.snoc : ∀ {vs ls : List Int} {v l : Int}, Fit vs ls → 0 ≤ v → v < l → Fit (vs ++ [v]) (ls ++ [l])
  | [], [], v, l, _, h1, h2 => ⟨h1, h2, trivial⟩
  | a :: vs, b :: ls, v, l, h, h1, h2 => ⟨h.1, h.2.1, Fit.snoc h.2.2 h1 h2⟩
  | [], _ :: _, _, _, h, _, _ => h.elim
  | _ :: _, [], _, _, h, _, _ => h.elim
theorem Fit.get : ∀ {vs ls : List Int} {k : Nat} {l : Int}, Fit vs ls → ls[k]? = some l → ∃ v, vs[k]? = some v ∧ 0 ≤ v ∧ v < l
  | [], [], _, _, _, h => by simp at h
  | v :: vs, l :: ls, 0, l', h, e => by simp at e; subst e; exact ⟨v, by simp, h.1, h.2.1⟩
  | v :: vs, l :: ls, k + 1, l', h, e => by
    obtain ⟨w, h1, h2⟩ := Fit.get (k := k) h.2.2 (by simpa using e)
    exact ⟨w, by simpa using h1, h2⟩
  | [], _ :: _, _, _, h, _ => h.elim
  | _ :: _, [], _, _, h, _ => h.elim
abbrev iL (ns : List Int) : D := .lst (ns.map D.int)
theorem take_snoc {α : Type} {xs : List α} {i : Nat} {x : α} (h : xs[i]? = some x) : xs.take (i + 1) = xs.take i ++ [x] := by
  rw [List.take_add_one, h]; rfl
end Dx
end S_DxM
section S_DxN
set_option Elab.async false
set_option linter.all false
set_option maxRecDepth 100000
namespace Dx
open PySem L2
def endB (a b : List Nat) : Bool := decide (b.length ≤ a.length) && decide (a.drop (a.length - b.length) = b)
def startB (a b : List Nat) : Bool := decide (b.length ≤ a.length) && decide (a.take b.length = b)
theorem beq_dec (a b : List Nat) : (a == b) = decide (a = b) := by
  by_cases h : a = b
  · subst h; simp
  · simp [h]
theorem end_ST (a b : List Nat) : Txt.endswith (Sg a) (Sg b) = endB a b := by
  unfold Txt.endswith endB
  rw [PySem.StrLaws.subAt_eq, ST_len, ST_len, Nat.zero_add]
  show (decide (b.length ≤ a.length) && ((a.drop (a.length - b.length)).take b.length == b)) = _
  by_cases h : b.length ≤ a.length
  · rw [List.take_of_length_le (by rw [List.length_drop]; omega), beq_dec]
  · rw [decide_eq_false h]; rfl
theorem start_ST (a b : List Nat) : Txt.startswith (Sg a) (Sg b) = startB a b := by
  unfold Txt.startswith startB
  rw [PySem.StrLaws.subAt_eq, ST_len, ST_len, Nat.zero_add]
  show (decide (b.length ≤ a.length) && ((a.drop 0).take b.length == b)) = _
  rw [List.drop_zero, beq_dec]
/-- split at one sign -/
abbrev spc (c : Nat) (a : List Nat) : List (List Nat) := TL.spl [c] 0 [] a
theorem split_ST (a : List Nat) (c : Nat) (hc : c < 256) : Txt.split (Sg a) (Sg [c]) = (spc c a).map Sg := by
  refine TL.map_tl_inj ?_
  rw [TL.split_spl _ _ (by show [c] ≠ []; simp) (TL.kind_ok (by show #[c].all _ = true; simp [hc])), List.map_map]
  show spc c a = _
  rw [show TL.tl ∘ Sg = id from rfl, List.map_id]
theorem allStr_map {α : Type} (g : α → List Nat) : ∀ xs : List α, allStr (xs.map fun x => .str (Sg (g x))) = some (xs.map fun x => Sg (g x))
  | [] => rfl
  | x :: xs => by rw [List.map_cons, allStr, allStr_map g xs]; rfl
theorem joinL_nil : ∀ xs : List (List Nat), TL.joinL [] xs = xs.flatten
  | [] => rfl
  | [a] => by simp [TL.joinL]
  | a :: b :: r => by rw [TL.joinL, List.nil_append, joinL_nil (b :: r)]; rfl
theorem join_ST (s : List Nat) (xs : List (List Nat)) : Txt.join (Sg s) (xs.map Sg) = Sg (TL.joinL s xs) := by
  rw [TL.join_eq]
  refine TL.ext_tl ?_
  rw [TL.tl_join, List.map_map, show TL.tl ∘ Sg = id from rfl, List.map_id]
section
variable {Q : D → Prop} {E : Str → List Str → List D → Prop} {a b : List Nat}
theorem rs_end (q : Q (.bl (endB a b))) : Rs (endD (.str (Sg a)) (.str (Sg b))) Q E := by
  show Q (.bl (Txt.endswith (Sg a) (Sg b)))
  rw [end_ST]; exact q
theorem rs_start (q : Q (.bl (startB a b))) : Rs (startD (.str (Sg a)) (.str (Sg b))) Q E := by
  show Q (.bl (Txt.startswith (Sg a) (Sg b)))
  rw [start_ST]; exact q
theorem rs_split {c : Nat} (h : c < 256 ∧ a.length + 2 ≤ sizeLine) (q : Q (.lst ((spc c a).map fun l => .str (Sg l)))) : Rs (splitD (.str (Sg a)) (.str (Sg [c]))) Q E := by
  refine rs_guard ⟨rfl, by rw [ST_len]; exact h.2⟩ ?_
  show Q (.lst (strsD (Txt.split (Sg a) (Sg [c]))))
  rw [split_ST a c h.1]
  unfold strsD
  rw [List.map_map]; exact q
theorem rs_joinS {α : Type} {g : α → List Nat} {xs : List α} (h : (xs.map fun x => (g x).length).sum ≤ 16777216) (q : Q (.str (Sg (xs.map g).flatten))) : Rs (joinD (.str (Sg [])) (.lst (xs.map fun x => .str (Sg (g x))))) Q E := by
  show Rs (joinZ (Sg []) (allStr (xs.map fun x => .str (Sg (g x))))) Q E
  rw [allStr_map]
  refine rs_guard ?_ ?_
  · rw [List.map_map]
    simp only [ST_len, Function.comp_def, List.length_nil, Nat.mul_zero, Nat.add_zero]
    exact h
  · have := join_ST [] (xs.map g)
    rw [List.map_map, joinL_nil] at this
    show Q (.str (Txt.join (Sg []) (xs.map (Sg ∘ g))))
    rw [this]; exact q
theorem rs_joinC {ns : List Nat} (h : ns.length ≤ 16777216) (q : Q (.str (Sg ns))) : Rs (joinD (.str (Sg [])) (.lst (ns.map fun n => .str (Sg [n])))) Q E := by
  refine rs_joinS (g := fun n => [n]) ?_ ?_
  · have : ∀ l : List Nat, (l.map fun n => ([n] : List Nat).length).sum = l.length := fun l => by
      induction l with
      | nil => rfl
      | cons a l ih => rw [List.map_cons, List.sum_cons, ih, List.length_cons]; simp; omega
    rw [this]; exact h
  · have : ∀ l : List Nat, (l.map fun n => ([n] : List Nat)).flatten = l := fun l => by
      induction l with
      | nil => rfl
      | cons a l ih => rw [List.map_cons, List.flatten_cons, ih]; rfl
    rw [this]; exact q
end
section
variable {Q : D → Prop} {E : Str → List Str → List D → Prop}
theorem rs_isi_non_bool  (q : Q (.bl false)) : Rs (isiD "bool" .non) Q E := rs_isi rfl (by decide +kernel) q
theorem rs_isi_non_int  (q : Q (.bl false)) : Rs (isiD "int" .non) Q E := rs_isi rfl (by decide +kernel) q
theorem rs_isi_non_str  (q : Q (.bl false)) : Rs (isiD "str" .non) Q E := rs_isi rfl (by decide +kernel) q
theorem rs_isi_non_tuple  (q : Q (.bl false)) : Rs (isiD "tuple" .non) Q E := rs_isi rfl (by decide +kernel) q
theorem rs_isi_non_list  (q : Q (.bl false)) : Rs (isiD "list" .non) Q E := rs_isi rfl (by decide +kernel) q
theorem rs_isi_bl_bool {x : Bool} (q : Q (.bl true)) : Rs (isiD "bool" (.bl x)) Q E := rs_isi rfl (by decide +kernel) q
theorem rs_isi_bl_int {x : Bool} (q : Q (.bl true)) : Rs (isiD "int" (.bl x)) Q E := rs_isi rfl (by decide +kernel) q
theorem rs_isi_bl_str {x : Bool} (q : Q (.bl false)) : Rs (isiD "str" (.bl x)) Q E := rs_isi rfl (by decide +kernel) q
theorem rs_isi_bl_tuple {x : Bool} (q : Q (.bl false)) : Rs (isiD "tuple" (.bl x)) Q E := rs_isi rfl (by decide +kernel) q
theorem rs_isi_bl_list {x : Bool} (q : Q (.bl false)) : Rs (isiD "list" (.bl x)) Q E := rs_isi rfl (by decide +kernel) q
theorem rs_isi_int_bool {x : Int} (q : Q (.bl false)) : Rs (isiD "bool" (.int x)) Q E := rs_isi rfl (by decide +kernel) q
theorem rs_isi_int_int {x : Int} (q : Q (.bl true)) : Rs (isiD "int" (.int x)) Q E := rs_isi rfl (by decide +kernel) q
theorem rs_isi_int_str {x : Int} (q : Q (.bl false)) : Rs (isiD "str" (.int x)) Q E := rs_isi rfl (by decide +kernel) q
theorem rs_isi_int_tuple {x : Int} (q : Q (.bl false)) : Rs (isiD "tuple" (.int x)) Q E := rs_isi rfl (by decide +kernel) q
theorem rs_isi_int_list {x : Int} (q : Q (.bl false)) : Rs (isiD "list" (.int x)) Q E := rs_isi rfl (by decide +kernel) q
theorem rs_isi_str_bool {x : Str} (q : Q (.bl false)) : Rs (isiD "bool" (.str x)) Q E := rs_isi rfl (by decide +kernel) q
theorem rs_isi_str_int {x : Str} (q : Q (.bl false)) : Rs (isiD "int" (.str x)) Q E := rs_isi rfl (by decide +kernel) q
theorem rs_isi_str_str {x : Str} (q : Q (.bl true)) : Rs (isiD "str" (.str x)) Q E := rs_isi rfl (by decide +kernel) q
theorem rs_isi_str_tuple {x : Str} (q : Q (.bl false)) : Rs (isiD "tuple" (.str x)) Q E := rs_isi rfl (by decide +kernel) q
theorem rs_isi_str_list {x : Str} (q : Q (.bl false)) : Rs (isiD "list" (.str x)) Q E := rs_isi rfl (by decide +kernel) q
theorem rs_isi_lst_bool {x : List D} (q : Q (.bl false)) : Rs (isiD "bool" (.lst x)) Q E := rs_isi rfl (by decide +kernel) q
theorem rs_isi_lst_int {x : List D} (q : Q (.bl false)) : Rs (isiD "int" (.lst x)) Q E := rs_isi rfl (by decide +kernel) q
theorem rs_isi_lst_str {x : List D} (q : Q (.bl false)) : Rs (isiD "str" (.lst x)) Q E := rs_isi rfl (by decide +kernel) q
theorem rs_isi_lst_tuple {x : List D} (q : Q (.bl false)) : Rs (isiD "tuple" (.lst x)) Q E := rs_isi rfl (by decide +kernel) q
theorem rs_isi_lst_list {x : List D} (q : Q (.bl true)) : Rs (isiD "list" (.lst x)) Q E := rs_isi rfl (by decide +kernel) q
theorem rs_isi_tup_bool {x : List D} (q : Q (.bl false)) : Rs (isiD "bool" (.tup x)) Q E := rs_isi rfl (by decide +kernel) q
theorem rs_isi_tup_int {x : List D} (q : Q (.bl false)) : Rs (isiD "int" (.tup x)) Q E := rs_isi rfl (by decide +kernel) q
theorem rs_isi_tup_str {x : List D} (q : Q (.bl false)) : Rs (isiD "str" (.tup x)) Q E := rs_isi rfl (by decide +kernel) q
theorem rs_isi_tup_tuple {x : List D} (q : Q (.bl true)) : Rs (isiD "tuple" (.tup x)) Q E := rs_isi rfl (by decide +kernel) q
theorem rs_isi_tup_list {x : List D} (q : Q (.bl false)) : Rs (isiD "list" (.tup x)) Q E := rs_isi rfl (by decide +kernel) q
end
theorem cut_take {α : Type} (a : List α) (k : Nat) : cutL a none (some (k : Int)) = a.take k := by
  unfold cutL
  rw [HT.sIx_none, HT.sIx_nat, List.drop_zero, Nat.sub_zero]
  by_cases h : k ≤ a.length
  · rw [Nat.min_eq_left h]
  · rw [Nat.min_eq_right (by omega), List.take_length, List.take_of_length_le (by omega)]
theorem cut_mid {α : Type} (a : List α) (j k : Nat) : cutL a (some (j : Int)) (some (k : Int)) = (a.take k).drop j := by
  unfold cutL
  rw [HT.sIx_nat, HT.sIx_nat, List.drop_take]
  by_cases h2 : j ≤ a.length
  · rw [Nat.min_eq_left h2]
    by_cases h : k ≤ a.length
    · rw [Nat.min_eq_left h]
    · rw [Nat.min_eq_right (by omega), List.take_of_length_le (by rw [List.length_drop]; omega), List.take_of_length_le (by rw [List.length_drop]; omega)]
  · rw [List.drop_of_length_le (show a.length ≤ j by omega), List.drop_of_length_le (by omega)]
    simp
/-- a[:-k] -/
theorem cut_back {α : Type} (a : List α) (k : Nat) (hk : 0 < k) : cutL a none (some (-(k : Int))) = a.take (a.length - k) := by
  unfold cutL
  have e : HT.sIx a.length a.length (some (-(k : Int))) = a.length - k := by
    show (if -(k : Int) < 0 then (-(k : Int) + (a.length : Int)).toNat else _) = _
    rw [if_pos (by omega)]; omega
  rw [e, HT.sIx_none, List.drop_zero, Nat.sub_zero]
theorem cut_len {α : Type} (a : List α) (lo hi : Option Int) : (cutL a lo hi).length ≤ a.length := by
  unfold cutL
  rw [List.length_take, List.length_drop]; omega
end Dx
end S_DxN
section S_DxQ
set_option Elab.async false
set_option linter.all false
set_option maxRecDepth 100000
namespace Dx
open PySem L2
section
variable {Q : D → Prop} {E : Str → List Str → List D → Prop} {r : Rho} {f f1 : Rho → Res D} {fs : Rho → Res (List D)} {n fl gl : Str} {ns : List Str} {vs ds es : List D} {F : List D → Res D} {x d : D}
theorem rs_star {Q : List D → Prop} (h : Rs (f r) (fun d => Rs (items d) (fun xs => Rs (fs r) (fun ys => Q (xs ++ ys)) E) E) E) : Rs (dStar f fs r) Q E := Rs.bind (h.impE (fun a q => Rs.bind (q.impE (fun _ q => Rs.bind q) fun _ _ _ z => z)) fun _ _ _ z => z)
theorem rs_itemsL {Q : List D → Prop} (q : Q ds) : Rs (items (.lst ds)) Q E := q
theorem rs_itemsT {Q : List D → Prop} (q : Q ds) : Rs (items (.tup ds)) Q E := q
theorem rs_zipL {Q : List D → Prop} (q : Q (pairs ds es)) : Rs (zipL [.lst ds, .lst es]) Q E := q
theorem rs_zipS {a b : List Nat} {Q : List D → Prop} (q : Q (pairs (a.map fun n => .str (Sg [n])) (b.map fun n => .str (Sg [n])))) : Rs (zipS [.str (Sg a), .str (Sg b)]) Q E := q
end
end Dx
end S_DxQ
section S_DxR
set_option Elab.async false
set_option linter.all false
set_option maxRecDepth 100000
set_option maxHeartbeats 2000000
namespace Dx
open PySem L2 ItX
open PyProof.Rows hiding St
section
variable {X : Cx} {c : Cf} {L G G' : List Ow} {f f1 f2 : Rho → Res D} {e o a b : Expr} {es : List Expr} {pos apos p : Pos} {fs : Rho → Res (List D)} {n : Str} {C : Addr} {F : List D → Res D} {rm : Bool} {k : Nat} {fa : Addr} {fd : FuncData} {ps : List Str}
def keyD : D → Option Key
  | .int i => some (.inl i)
  | .str z => some (.inr z)
  | _ => none
def keyOf : Key → D
  | .inl i => .int i
  | .inr z => .str z
def getK {κ : Type} [DecidableEq κ] : List κ → List D → κ → Option D
  | k :: ks, v :: vs, x => if k = x then some v else getK ks vs x
  | _, _, _ => none
def putV {κ : Type} [DecidableEq κ] (ks : List κ) (vs : List D) (x : κ) (d : D) : List κ × List D := if (ks.any fun k => decide (k = x)) = true then (ks, List.zipWith (fun k v => if k = x then d else v) ks vs) else (ks ++ [x], vs ++ [d])
/-- {} -/
def dD0 : Rho → Res D := fun _ => .ok (.dk [] [])
/-- k in d -/
def inK (neg : Bool) : D → D → Res D
  | k, .dk ks vs => match keyD k with
    | some x => .ok (.bl (if neg then !(getK ks vs x).isSome else (getK ks vs x).isSome))
    | none => .bad
  | _, _ => .bad
/-- list(d), len(d) -/
def listK : D → Res D
  | .dk ks _ => .ok (.lst (ks.map keyOf))
  | _ => .bad
def lenK : D → Res D
  | .dk ks _ => .ok (.int ks.length)
  | .dt ks _ => .ok (.int ks.length)
  | _ => .bad
end
end Dx
end S_DxR
section S_DxI
set_option Elab.async false
set_option linter.all false
set_option maxRecDepth 100000
set_option maxHeartbeats 2000000
namespace Dx
open PySem L2 ItX PyProof.Rows
section
variable {X : Cx} {c : Cf} {L G G' : List Ow} {a b e : Expr} {pos : Pos} {f f1 f2 : Rho → Res D} {k : Nat}
def keysD : List D → Option (List Key)
  | [] => some []
  | d :: ds => match keyD d, keysD ds with
    | some k, some ks => some (k :: ks)
    | _, _ => none
def keyT : D → Option (List Key)
  | .tup ds => keysD ds
  | _ => none
def tupOf (ks : List Key) : D := .tup (ks.map keyOf)
/-- a tuple of the heap becomes one that stays -/
theorem Fwd.tup {S H : Hp} (e : Ex S H) {q : Addr} {xs : List V} (h : H q = some (.tup xs)) : ∃ S', Fwd S H S' H ∧ S' q = some (.tup xs) := by
  cases hs : S q with
  | some o =>
    have := e _ _ hs
    rw [h] at this
    cases this
    exact ⟨S, Fwd.refl e, hs⟩
  | none =>
    refine ⟨upd S q (.tup xs), ⟨Ex.new hs, Ex.refl, fun a u ha => ?_, fun a u ha m => ?_⟩, upd_same⟩
    · by_cases hh : a = q
      · subst hh; rw [upd_same] at ha; rw [h]; exact ha
      · rw [upd_ne hh] at ha; exact e a u ha
    · by_cases hh : a = q
      · subst hh; exact .inr ⟨xs, h⟩
      · rw [upd_ne hh, m] at ha; cases ha
def itemsK : D → Res (List D)
  | .dt ks _ => .ok (ks.map tupOf)
  | .dk ks _ => .ok (ks.map keyOf)
  | _ => .bad
variable {tg : Expr}
end
end Dx
end S_DxI
section S_DxJ
set_option Elab.async false
set_option linter.all false
set_option maxRecDepth 100000
set_option maxHeartbeats 2000000
namespace Dx
open PySem L2 ItX PyProof.Rows
/-- a def of the text, whatever its defaults are -/
structure FunE (K : PySem.W.Frag) (x qual : Str) (st : Stmt) (f : Addr) (fd : FuncData) : Prop where
  ex : ∃ (oc : Value) (od : Option Addr) (dV kV doc pm : Value) (an : Option Addr) (cdv ct : Value) (osl : Array (Option Value)),
    fd = PySem.W.fnOf x qual (defArgs st) (defBody st) (defScope st) dV kV doc pm an cdv ct ∧ K.lookup f = some ⟨oc, od, .func fd, osl⟩ ∧ PySem.W.codeIn K cdv qual = true
  kp : PySem.W.keepIn K (.ref f) = true
section
variable {P : Program} {w : World} {K : PySem.W.Frag} {mg : Str → Option Value} {base : Heap} {cm : CM}
theorem FunE.okX {x qual : Str} {st : Stmt} {f : Addr} {fd : FuncData} {N ps : List Str} {k : Nat} {sp : Sp} (F : FunE K x qual st f fd) (S : FnScope N ps (defScope st)) (len : ∀ vs H Q E, sp vs H Q E → vs.length = ps.length)
    (hbody : ∀ (cdv : Value) (A : Around) (outer : List Env) (s : Shared) (H : Hp) (vs : List V) (Q : VK) (E : XK), Room k (A.deeper (envOfC qual (defScope st) s.heap.objs.size f cdv)) → sp vs H Q E →
      ∃ t, PSs (cxOf (L2.CX P w) P w K mg base N qual (defScope st) f cdv A outer s H E) (defBody st) t ∧ t { nx := fun _ H' => Q .non H', rt := Q } (start N vs) H) : FnOk P w K mg base (L2.CX P w) (k + 1) f fd ps sp := by
  obtain ⟨oc, od, dV, kV, doc, pm, an, cdv, ct, osl, rfl, lk, hcd⟩ := F.ex
  exact fn_of lk hcd S len fun A outer s H vs Q E hr hsp => hbody cdv A outer s H vs Q E hr hsp
end
section
variable {X : Cx} {c : Cf} {L G G' : List Ow} {f f1 : Rho → Res D} {e o : Expr} {es : List Expr} {pos apos p : Pos}
variable {k : Nat} {fa : Addr} {fd : FuncData} {ps : List Str} {ms : List Bool} {rm : Bool} {F : List D → Res D}
variable {tg : Expr}
/-- a, b, .. = a list -/
def tgTL (n : Nat) (u : List D → Rho → Res Rho) : D → Rho → Res Rho := fun d r => match d with
  | .lst ds => if ds.length = n then u ds r else .bad
  | _ => .bad
theorem dg_lst {es : List Expr} {k n : Nat} {ks : List Nat} {u : List D → Rho → Res Rho} (hc : X.calm = true) (h : PGs X es (gDs c G G' ks u)) (hn : (assignEach es X.env).length = n := by rfl) (hst : (assignEach es X.env).findIdx? (·.1) = none := by rfl) (hK : c.K = X.K := by rfl) :
    PG X (.Tuple es k pos) (gD c G G' ks (tgTL n u)) := pg_imp (pg_lst hc h hn hst) fun v σ H Q ⟨S0, H0, S, r, d, ok, hv, p⟩ => by
  unfold tgTL at p
  cases hv with
  | @lst a xs ds q rr =>
    dsimp only at p
    by_cases hl : ds.length = n
    · rw [if_pos hl] at p
      exact ⟨a, xs, rfl, by rw [← hK]; exact .inl (.inl (ok.ex _ _ q)), by rw [rr.length]; exact hl, S0, H0, S, r, ds, ok, rr, p⟩
    · rw [if_neg hl] at p; exact p.elim
  | _ => exact p.elim
end
end Dx
end S_DxJ
section S_DxH
set_option Elab.async false
set_option linter.all false
set_option maxRecDepth 100000
set_option maxHeartbeats 4000000
namespace Dx
open PySem L2 PyProof.Rows Srt SrtO
end Dx
end S_DxH
section S_DxL
set_option Elab.async false
set_option linter.all false
set_option maxRecDepth 100000
set_option maxHeartbeats 4000000
namespace Dx
open PySem L2
end Dx
end S_DxL
section S_DxK
set_option Elab.async false
set_option linter.all false
set_option maxRecDepth 100000
set_option maxHeartbeats 2000000
namespace Dx
open PySem L2 PyProof.Rows ClX
end Dx
namespace Dx
open PySem L2
end Dx
end S_DxK
section S_DxAA
set_option Elab.async false
set_option linter.all false
set_option maxRecDepth 100000
set_option maxHeartbeats 2000000
namespace Dx
open PySem L2
section
variable {X : Cx} {c : Cf} {L G G' : List Ow} {f f1 f2 : Rho → Res D} {a b e : Expr} {pos : Pos} {tg : Expr}
def insI (p : Int) : List Int → List Int
  | [] => [p]
  | x :: xs => if x < p then x :: insI p xs else p :: x :: xs
def sortI : List Int → List Int
  | [] => []
  | x :: xs => insI x (sortI xs)
def sortID : D → Res D
  | .lst ds => match allInt ds with
    | some is => .ok (.lst ((sortI is).map D.int))
    | none => .bad
  | _ => .bad
end
section
variable {Q : D → Prop} {E : Str → List Str → List D → Prop} {i j s : Int}
theorem allInt_map : ∀ ns : List Int, allInt (ns.map D.int) = some ns
  | [] => rfl
  | n :: ns => by rw [List.map_cons, allInt, allInt_map ns]
theorem rs_sortI {ns : List Int} (q : Q (.lst ((sortI ns).map D.int))) : Rs (g1 sortID [.lst (ns.map D.int)]) Q E := by
  show Rs (match allInt (ns.map D.int) with | some is => Res.ok (.lst ((sortI is).map D.int)) | none => .bad) Q E
  rw [allInt_map]; exact q
theorem rs_g2 {g : Int → Int → Int} (q : Q (.int (g i j))) : Rs (g2 (intsD g) [.int i, .int j]) Q E := q
theorem rs_sum {ns : List Int} (q : Q (.int ns.sum)) : Rs (g1 sumD [.lst (ns.map D.int)]) Q E := by
  show Rs (match allInt (ns.map D.int) with | some is => Res.ok (.int is.sum) | none => .bad) Q E
  rw [allInt_map]; exact q
end
end Dx
end S_DxAA
section S_DxAB
set_option Elab.async false
set_option linter.all false
set_option maxRecDepth 100000
set_option maxHeartbeats 4000000
namespace Dx
open PySem L2 PyProof.Rows Srt SrtO
end Dx
end S_DxAB
section S_DxAC
set_option Elab.async false
set_option linter.all false
set_option maxRecDepth 100000
set_option maxHeartbeats 4000000
namespace Dx
open PySem L2
section
variable {X : Cx} {c : Cf} {L G G' G'' : List Ow} {f f1 f2 : Rho → Res D} {a b e e2 e3 : Expr} {pos : Pos} {tg : Expr} {k : Nat}
def getE (d k e : D) : Res D := match d with
  | .dk ks vs => match keyD k with
    | some x => .ok ((getK ks vs x).getD e)
    | none => .bad
  | .dt ks vs => match keyT k with
    | some x => .ok ((getK ks vs x).getD e)
    | none => .bad
  | _ => .bad
abbrev FP := (Rho → Res D) × (Rho → Res D)
def dPairs : List FP → Rho → Res (List (D × D))
  | [], _ => .ok []
  | p :: ps, r => (p.1 r).bind fun k => (p.2 r).bind fun d => (dPairs ps r).bind fun kvs => .ok ((k, d) :: kvs)
def RpPs (c : Cf) (S : Hp) : List (V × V) → List (D × D) → Prop
  | [], [] => True
  | v :: vs, d :: ds => Rp c.K c.cm S v.1 d.1 ∧ Rp c.K c.cm S v.2 d.2 ∧ RpPs c S vs ds
  | _, _ => False
def mergeD : List Key → List D → List (D × D) → Res D
  | ks, vs, [] => .ok (.dk ks vs)
  | ks, vs, (k, d) :: kvs => match keyD k with
    | some x => mergeD (putV ks vs x d).1 (putV ks vs x d).2 kvs
    | none => .bad
def dDisp (ps : List FP) : Rho → Res D := fun r => (dPairs ps r).bind fun kvs => mergeD [] [] kvs
theorem RpPs.len {S : Hp} : ∀ {vs : List (V × V)} {ds : List (D × D)}, RpPs c S vs ds → vs.length = ds.length
  | [], [], _ => rfl
  | v :: vs, d :: ds, h => by simp [RpPs.len h.2.2]
  | [], _ :: _, h => h.elim
  | _ :: _, [], h => h.elim
def allBl : List D → Option (List Bool)
  | [] => some []
  | .bl b :: ds => match allBl ds with
    | some bs => some (b :: bs)
    | none => none
  | _ => none
def allD : D → Res D
  | .lst ds => match allBl ds with
    | some bs => .ok (.bl (bs.all id))
    | none => .bad
  | _ => .bad
def inKt (neg : Bool) (d e : D) : Res D := match e with
  | .kt ds => match inFlat d ds with
    | some b => .ok (.bl (if neg then !b else b))
    | none => .bad
  | _ => .bad
def parF3 (i j l : Nat) (f1 f2 f3 : Rho → Res D) : Rho → SR := fun r => liftS r (dCons f1 (dCons f2 (dCons f3 dNil)) r) fun ds => match ds with
  | [d, e, g] => .nx (((r.set i (some d)).set j (some e)).set l (some g))
  | _ => .bad
end
section
variable {Q : D → Prop} {E : Str → List Str → List D → Prop} {r : Rho} {f f1 f2 f3 : Rho → Res D} {d k e : D}
theorem allBl_map : ∀ bs : List Bool, allBl (bs.map D.bl) = some bs
  | [] => rfl
  | b :: bs => by rw [List.map_cons, allBl, allBl_map bs]
theorem rs_all {bs : List Bool} (q : Q (.bl (bs.all id))) : Rs (g1 allD [.lst (bs.map D.bl)]) Q E := by
  show Rs (match allBl (bs.map D.bl) with | some bs => Res.ok (.bl (bs.all id)) | none => .bad) Q E
  rw [allBl_map]; exact q
end
section
variable {N B C : Rho → Prop} {R : D → Prop} {E : Rho → Str → List Str → List D → Prop} {r : Rho} {f f1 f2 f3 : Rho → Res D} {i j l : Nat}
theorem ss_par3 (h : Rs (f1 r) (fun d => Rs (f2 r) (fun e => Rs (f3 r) (fun g => N (((r.set i (some d)).set j (some e)).set l (some g))) (E r)) (E r)) (E r)) : Ss (parF3 i j l f1 f2 f3 r) N R B C E :=
  ss_lift (rs_cons (h.impE (fun d q => rs_cons (q.impE (fun e q => rs_cons (q.impE (fun g q => rs_nil q) fun _ _ _ z => z)) fun _ _ _ z => z)) fun _ _ _ z => z))
end
end Dx
end S_DxAC
section S_DxAD
set_option Elab.async false
set_option linter.all false
set_option maxRecDepth 100000
set_option maxHeartbeats 2000000
namespace Dx
open PySem L2
section
variable {X : Cx} {c : Cf} {G : List Ow} {pos : Pos}
theorem de_strL {x y : Str} {j : Nat} (h : x = y) : PE X (.Constant (.str x) j pos) (tV c G (dC (.str y))) := by subst h; exact de_str
end
theorem log_small {i : Int} (h : 0 ≤ i) (h1 : i < 1000000000000) : i.natAbs.log2 < 1920 := by
  by_cases h0 : i.natAbs = 0
  · rw [h0]; decide
  · have : i.natAbs < 2 ^ 40 := by omega
    have := (Nat.log2_lt h0).mpr this
    omega
theorem num_ST {i : Int} (h : 0 ≤ i) : (toString i : Str) = Sg (TL.numL i.toNat) := by
  have e : i = ((i.toNat : Nat) : Int) := by omega
  refine TL.ext_tl ?_
  have := TL.tl_num i.toNat
  rw [← e] at this
  exact this
theorem lt_one {a b : Nat} : ([a] < [b]) ↔ a < b := by
  constructor
  · intro h
    cases h with
    | rel h => exact h
    | cons h => cases h
  · intro h; exact List.Lex.rel h
section
variable {Q : D → Prop} {E : Str → List Str → List D → Prop} {i j : Int} {a b l : List Nat} {r : Rho} {f : Rho → Res D} {g : Str → Rho → Res D} {acc : List Nat} {d : D}
theorem rs_strI (h : 0 ≤ i ∧ i < 1000000000000) (q : Q (.str (Sg (TL.numL i.toNat)))) : Rs (g1 strD [.int i]) Q E :=
  rs_guard (log_small h.1 h.2) (by show Q (.str (toString i)); rw [num_ST h.1]; exact q)
theorem rs_fmtI (h : 0 ≤ i ∧ i < 1000000000000) (q : Q (.str (Sg (TL.numL i.toNat)))) : Rs (fmtD (.int i)) Q E :=
  rs_guard (log_small h.1 h.2) (by show Q (.str (toString i)); rw [num_ST h.1]; exact q)
theorem rs_fmtS (h : a.length ≤ sizeLine) (q : Q (.str (Sg a))) : Rs (fmtD (.str (Sg a))) Q E := rs_guard (by rw [ST_len]; exact h) q
theorem rs_jnil (q : Q (.str (Sg acc))) : Rs (dJnil (Sg acc) r) Q E := q
theorem rs_jcons (h : Rs (f r) (fun d => Rs (asS d) (fun y => ∃ l, y = Sg l ∧ acc.length + l.length ≤ 100000 ∧ Rs (g (Sg (acc ++ l)) r) Q E) E) E) : Rs (dJcons f g (Sg acc) r) Q E :=
  Rs.bind (h.impE (fun d q => Rs.bind (q.impE (fun y q => by
    obtain ⟨l, rfl, h1, h2⟩ := q
    rw [ST_app]
    exact rs_guard (by rw [ST_len, List.length_append]; exact Nat.le_trans h1 sz5) h2) fun _ _ _ z => z)) fun _ _ _ z => z)
theorem rs_asSJ {l : List Nat} (h : acc.length + l.length ≤ 100000) (k : Rs (g (Sg (acc ++ l)) r) Q E) : Rs (asS (.str (Sg l))) (fun y => ∃ l, y = Sg l ∧ acc.length + l.length ≤ 100000 ∧ Rs (g (Sg (acc ++ l)) r) Q E) E := ⟨l, rfl, h, k⟩
theorem rs_dJoin (h : Rs (g (Sg []) r) Q E) : Rs (dJoin g r) Q E := h
theorem rs_ord {n : Nat} (q : Q (.int n)) : Rs (g1 ordX [.str (Sg [n])]) Q E := rs_guard (by rw [ST_len]; rfl) q
theorem rs_leS {m n : Nat} (q : Q (.bl (decide (m ≤ n)))) : Rs (leD (.str (Sg [m])) (.str (Sg [n]))) Q E := by
  show Q (.bl (!decide ([n] < [m])))
  rw [show (!decide ([n] < [m])) = decide (m ≤ n) from by
    rw [Bool.eq_iff_iff]
    simp only [Bool.not_eq_true', decide_eq_false_iff_not, decide_eq_true_eq, lt_one]
    omega]
  exact q
theorem inFlat_ints (i : Int) (ns : List Int) : inFlat (.int i) (ns.map D.int) = some (decide (i ∈ ns)) := by
  have e : flatDs (ns.map D.int) = some (ns.map V.int) := by
    induction ns with
    | nil => rfl
    | cons n ns ih => rw [List.map_cons, flatDs, ih]; rfl
  unfold inFlat
  rw [e]
  show some (inV (V.int i) (ns.map V.int)) = _
  congr 1
  induction ns with
  | nil => rfl
  | cons n ns ih =>
    have e : flatDs (ns.map D.int) = some (ns.map V.int) := by
      clear ih e
      induction ns with
      | nil => rfl
      | cons n ns ih => rw [List.map_cons, flatDs, ih]; rfl
    have ih := ih e
    unfold inV at ih ⊢
    rw [List.map_cons, List.any_cons, ih]
    show (decide (n = i) || decide (i ∈ ns)) = _
    by_cases h : n = i
    · subst h; simp
    · have h' : ¬ i = n := fun z => h z.symm
      simp [h, h']
theorem rs_inKI {neg : Bool} {ns : List Int} (q : Q (.bl (if neg then !decide (i ∈ ns) else decide (i ∈ ns)))) : Rs (inKt neg (.int i) (.kt (ns.map D.int))) Q E := by
  show Rs (match inFlat (.int i) (ns.map D.int) with | some b => Res.ok (D.bl (if neg then !b else b)) | none => .bad) Q E
  rw [inFlat_ints]; exact q
theorem rs_inI {ns : List Int} (q : Q (.bl (decide (i ∈ ns)))) : Rs (inD (.int i) (.lst (ns.map D.int))) Q E := by
  show Rs ((inLst (.int i) (ns.map D.int)).bind _) Q E
  unfold inLst
  rw [inFlat_ints]; exact q
theorem rs_ninI {ns : List Int} (q : Q (.bl (!decide (i ∈ ns)))) : Rs (ninD (.int i) (.lst (ns.map D.int))) Q E := by
  show Rs ((inLst (.int i) (ns.map D.int)).bind _) Q E
  unfold inLst
  rw [inFlat_ints]; exact q
end
theorem at_pos {α : Type} {xs : List α} {j : Int} {x : α} (h0 : 0 ≤ j) (h : xs[j.toNat]? = some x) : atI xs j = some x := by
  obtain ⟨n, rfl⟩ := Int.eq_ofNat_of_zero_le h0
  exact atI_nat h
theorem ixN_neg1 {n : Nat} (h : 0 < n) : ixN n (-1) = some (n - 1) := by
  unfold ixN
  rw [if_neg (by omega), if_pos (by omega)]
  congr 1
  omega
theorem at_last {α : Type} (xs : List α) (x : α) : atI (xs ++ [x]) (-1) = some x := by
  unfold atI
  rw [ixN_neg1 (by simp)]
  show (xs ++ [x])[(xs ++ [x]).length - 1]? = some x
  rw [List.length_append, List.length_cons, List.length_nil, Nat.add_sub_cancel, List.getElem?_append_right (Nat.le_refl _), Nat.sub_self]
  rfl
theorem ixN_last1 {α : Type} (xs : List α) (x : α) : ixN (xs ++ [x]).length (-1) = some xs.length := by
  rw [ixN_neg1 (by simp)]
  simp
theorem set_last {α : Type} (xs : List α) (x y : α) : (xs ++ [x]).set xs.length y = xs ++ [y] := by
  rw [List.set_append_right _ _ (Nat.le_refl _), Nat.sub_self]
  rfl
abbrev TD := List (List Nat × D)
def kS (a : List Nat) : Key := .inr (Sg a)
theorem kS_inj {a b : List Nat} : kS a = kS b ↔ a = b := ⟨fun h => by injection h with h; exact ST_inj.mp h, fun h => by rw [h]⟩
def dkT (T : TD) : D := .dk (T.map fun p => kS p.1) (T.map (·.2))
def lk (T : TD) (a : List Nat) : Option D := (T.find? fun p => decide (p.1 = a)).map (·.2)
theorem lk_cons (p : List Nat × D) (T : TD) (a : List Nat) : lk (p :: T) a = if p.1 = a then some p.2 else lk T a := by
  unfold lk
  rw [List.find?_cons]
  by_cases h : p.1 = a
  · rw [if_pos h, decide_eq_true h]; rfl
  · rw [if_neg h, decide_eq_false h]
theorem getK_T (T : TD) (a : List Nat) : getK (T.map fun p => kS p.1) (T.map (·.2)) (kS a) = lk T a := by
  induction T with
  | nil => rfl
  | cons p T ih =>
    rw [List.map_cons, List.map_cons, getK, ih, lk_cons]
    by_cases h : p.1 = a
    · rw [if_pos (kS_inj.mpr h), if_pos h]
    · rw [if_neg (fun z => h (kS_inj.mp z)), if_neg h]
theorem lk_isSome {T : TD} {a : List Nat} : (lk T a).isSome = decide (a ∈ T.map (·.1)) := by
  induction T with
  | nil => rfl
  | cons p T ih =>
    rw [lk_cons, List.map_cons]
    by_cases h : p.1 = a
    · rw [if_pos h]; simp [h]
    · have h' : ¬ a = p.1 := fun z => h z.symm
      rw [if_neg h, ih]; simp [h']
section
variable {Q : D → Prop} {E : Str → List Str → List D → Prop} {T : TD} {a : List Nat} {d e : D} {r : Rho}
theorem rs_inTk {neg : Bool} (q : Q (.bl (if neg then !decide (a ∈ T.map (·.1)) else decide (a ∈ T.map (·.1))))) : Rs (inK neg (.str (Sg a)) (dkT T)) Q E := by
  show Q (.bl (if neg then !(getK (T.map fun p => kS p.1) (T.map (·.2)) (kS a)).isSome else (getK (T.map fun p => kS p.1) (T.map (·.2)) (kS a)).isSome))
  rw [getK_T, lk_isSome]; exact q
theorem rs_getET (q : Q ((lk T a).getD e)) : Rs (getE (dkT T) (.str (Sg a)) e) Q E := by
  show Q ((getK (T.map fun p => kS p.1) (T.map (·.2)) (kS a)).getD e)
  rw [getK_T]; exact q
theorem rs_dD0 (q : Q (dkT [])) : Rs (dD0 r) Q E := q
theorem rs_listTk (q : Q (.lst (T.map fun p => .str (Sg p.1)))) : Rs (g1 listK [dkT T]) Q E := by
  show Q (.lst ((T.map fun p => kS p.1).map keyOf))
  rw [List.map_map]; exact q
theorem rs_lenTk (q : Q (.int T.length)) : Rs (g1 lenK [dkT T]) Q E := by
  show Q (.int (T.map fun p => kS p.1).length)
  rw [List.length_map]; exact q
theorem rs_itTk {Q : List D → Prop} (q : Q (T.map fun p => .str (Sg p.1))) : Rs (itemsK (dkT T)) Q E := by
  show Q ((T.map fun p => kS p.1).map keyOf)
  rw [List.map_map]; exact q
end
section
variable {Q : D → Prop} {E : Str → List Str → List D → Prop} {r : Rho} {fk fv : Rho → Res D} {ps : List FP}
theorem rs_disp (h : Rs (dPairs ps r) (fun kvs => Rs (mergeD [] [] kvs) Q E) E) : Rs (dDisp ps r) Q E := Rs.bind h
theorem rs_pnil {Q : List (D × D) → Prop} (q : Q []) : Rs (dPairs [] r) Q E := q
theorem rs_pcons {Q : List (D × D) → Prop} (h : Rs (fk r) (fun k => Rs (fv r) (fun d => Rs (dPairs ps r) (fun kvs => Q ((k, d) :: kvs)) E) E) E) : Rs (dPairs ((fk, fv) :: ps) r) Q E :=
  Rs.bind (h.impE (fun k q => Rs.bind (q.impE (fun d q => Rs.bind (q.impE (fun _ z => z) fun _ _ _ z => z)) fun _ _ _ z => z)) fun _ _ _ z => z)
end
section
variable {Q : D → Prop} {E : Str → List Str → List D → Prop} {r : Rho} {i : Nat} {n f : Str} {ns : List Str} {vs : List D} {d : D}
theorem rs_isX {isM : Str → Option Bool} {b : Bool} (h1 : r[i]? = some (some (.obj n ns vs))) (h2 : isM n = some b) (q : Q (.bl b)) : Rs (dIsX isM i r) Q E := by
  unfold dIsX
  rw [h1]
  dsimp only
  rw [h2]
  exact q
theorem rs_xf (h1 : r[i]? = some (some (.obj n ns vs))) (h2 : lookF ns vs f = some d) (q : Q d) : Rs (dXf i f r) Q E := by
  unfold dXf
  rw [h1]
  dsimp only
  rw [h2]
  exact q
end
section
variable {N B C : Rho → Prop} {R : D → Prop} {E : Rho → Str → List Str → List D → Prop} {r : Rho} {t u : Rho → Res Bool} {F K : Rho → SR}
/-- if t or u: F else: K, one test after the other -/
theorem ss_ifo (h : Rs (t r) (fun a => (a = true → Ss (F r) N R B C E) ∧ (a = false → Ss (ifF u F K r) N R B C E)) (E r)) : Ss (ifF (dOr t u) F K r) N R B C E := by
  unfold ifF
  refine ss_lift ?_
  refine rs_orc (h.impE (fun a q => ⟨fun ha => ?_, fun ha => ?_⟩) fun _ _ _ z => z)
  · exact q.1 ha
  · have q := q.2 ha
    unfold ifF at q
    cases hu : u r with
    | ok b => rw [hu] at q; exact q
    | err n ns vs => rw [hu] at q; exact q
    | bad => rw [hu] at q; exact q
theorem ss_ifa (h : Rs (t r) (fun a => (a = true → Ss (ifF u F K r) N R B C E) ∧ (a = false → Ss (K r) N R B C E)) (E r)) : Ss (ifF (dAnd t u) F K r) N R B C E := by
  unfold ifF
  refine ss_lift ?_
  refine rs_andc (h.impE (fun a q => ⟨fun ha => ?_, fun ha => ?_⟩) fun _ _ _ z => z)
  · have q := q.1 ha
    unfold ifF at q
    cases hu : u r with
    | ok b => rw [hu] at q; exact q
    | err n ns vs => rw [hu] at q; exact q
    | bad => rw [hu] at q; exact q
  · exact q.2 ha
end
end Dx
end S_DxAD
section S_DxAE
set_option Elab.async false
set_option linter.all false
set_option maxRecDepth 100000
set_option maxHeartbeats 2000000
namespace Dx
open PySem L2
end Dx
end S_DxAE
section S_DxAF
set_option Elab.async false
set_option linter.all false
set_option maxRecDepth 100000
set_option maxHeartbeats 4000000
namespace Dx
open PySem L2 PySem.Spec PyProof.Rows
end Dx
end S_DxAF
section S_DxAG
set_option Elab.async false
set_option linter.all false
set_option maxRecDepth 100000
set_option maxHeartbeats 4000000
namespace Dx
open PySem L2
end Dx
end S_DxAG
section S_DxAH
set_option Elab.async false
set_option linter.all false
set_option maxRecDepth 100000
set_option maxHeartbeats 2000000
namespace Dx
open PySem L2
end Dx
end S_DxAH
section S_DxAI
set_option Elab.async false
set_option linter.all false
set_option maxRecDepth 100000
set_option maxHeartbeats 2000000
namespace Dx
open PySem PySem.Spec L2 ItX PyProof.Rows
end Dx
end S_DxAI
section S_DxAJ
set_option Elab.async false
set_option linter.all false
set_option maxRecDepth 100000
set_option maxHeartbeats 2000000
namespace Dx
open PySem L2 ItX PyProof.Rows
section
variable {X : Cx} {c : Cf} {L G G' : List Ow} {f f1 : Rho → Res D} {fs gs : Rho → Res (List D)} {e o : Expr} {es : List Expr} {kws : List Keyword} {pos apos p : Pos} {C : Addr}
variable {k n : Nat} {fa : Addr} {fd : FuncData} {ps ks : List Str} {ms ms1 ms2 : List Bool} {rm : Bool} {F : List D → Res D}
theorem RpM.length {S H : Hp} : ∀ {ms : List Bool} {vs : List V} {ds : List D}, RpM c S H ms vs ds → vs.length = ms.length
  | [], vs, ds, h => by cases vs <;> cases ds <;> first | rfl | exact h.elim
  | b :: ms, vs, ds, h => by
    cases vs with
    | nil => cases b <;> cases ds <;> exact h.elim
    | cons v vs => cases ds with
      | nil => cases b <;> exact h.elim
      | cons d ds => cases b <;> exact congrArg Nat.succ (RpM.length h.2)
end
end Dx
end S_DxAJ
section S_DxAK
set_option Elab.async false
set_option linter.all false
set_option maxRecDepth 100000
set_option maxHeartbeats 2000000
namespace Dx
open PySem PySem.Spec L2 ItX PyProof.Rows
end Dx
end S_DxAK
section S_DxAL
set_option Elab.async false
set_option linter.all false
set_option maxRecDepth 100000
set_option maxHeartbeats 2000000
namespace Dx
open PySem PySem.Spec L2 ItX PyProof.Rows
theorem _root_.L2H.RoomH.units {k : Nat} {A : Around} (r : L2H.RoomH k A) : A.units + 64 < cLine := by have := r.un; omega
end Dx
end S_DxAL
section S_DxAM
set_option Elab.async false
set_option linter.all false
set_option maxRecDepth 100000
set_option maxHeartbeats 2000000
namespace Dx
open PySem L2 ItX
end Dx
end S_DxAM
section S_DxAN
set_option Elab.async false
set_option linter.all false
set_option maxRecDepth 100000
set_option maxHeartbeats 2000000
namespace Dx
open PySem L2 ItX
open PyProof.Rows hiding St
end Dx
end S_DxAN
section S_DxAO
set_option Elab.async false
set_option linter.all false
set_option maxRecDepth 100000
set_option maxHeartbeats 2000000
namespace Dx
open PySem L2 ItX
open PyProof.Rows hiding St
def rem (H : Hp) (p : Addr) : Hp := fun a => if a = p then none else H a
theorem rem_ne {H : Hp} {p a : Addr} (h : a ≠ p) : rem H p a = H a := if_neg h
theorem Ex.rem {S H : Hp} {p : Addr} (e : Ex S H) (n : S p = none) : Ex S (rem H p) := fun a o h => by
  have : a ≠ p := fun z => by subst z; rw [n] at h; cases h
  rw [rem_ne this]; exact e a o h
section
variable {c : Cf} {S0 H0 S H S' H' : Hp} {G : List Ow} {σ : St} {r : Rho}
/-- the own object in slot i is given away -/
theorem EnvOk.take (e : EnvOk c S0 H0 G S H σ r) {i : Nat} {d : D} {p : Addr} (k : kd G i = .o) (h : r[i]? = some (some d)) (hs : σ[i]? = some (some (.ref p))) (s3 : S p = none) (s4 : H0 p = none) : EnvOk c S0 H0 (G.set i .v) S (rem H p) σ (r.set i none) := by
  have sl : ∀ {j : Nat} {b : D}, (r.set i none)[j]? = some (some b) → i ≠ j ∧ r[j]? = some (some b) := fun {j b} hb => by
    rcases set_some hb with ⟨_, ea, _⟩ | ⟨ne, hb⟩
    · cases ea
    · exact ⟨ne, hb⟩
  refine ⟨⟨e.fwd.s, e.fwd.h.rem s4, e.fwd.sub.rem s3, e.fwd.new⟩, by rw [List.length_set]; exact e.len, fun j b hb => ?_, fun j l b b' q hj hl kj kl sj sl' => ?_, let ⟨A, hA⟩ := e.sto; ⟨A, ?_⟩⟩
  · obtain ⟨ne, hb⟩ := sl hb
    obtain ⟨v, h1, h2⟩ := e.slot j b hb
    refine ⟨v, h1, ?_⟩
    rw [kd_set_ne ne]
    cases kj : kd G j with
    | o =>
      rw [kj] at h2
      obtain ⟨q, ho, z1, z2, z3, z4, z5⟩ := h2
      subst z1
      have hq : q ≠ p := fun z => by subst z; exact ne (e.sep i j d b q h hb (isO_o k) (isO_o kj) hs h1)
      exact ⟨q, ho, rfl, by rw [rem_ne hq]; exact z2, z3, z4, z5⟩
    | i a =>
      rw [kj] at h2
      obtain ⟨z0, q, ho, z1, z2, z3, z4, z5⟩ := h2
      subst z1
      have hq : q ≠ p := fun z => by subst z; exact ne (e.sep i j d b q h hb (isO_o k) (by rw [kj]; trivial) hs h1)
      exact ⟨z0, q, ho, rfl, by rw [rem_ne hq]; exact z2, z3, z4, z5⟩
    | v => rw [kj] at h2; exact h2
    | b => rw [kj] at h2; exact h2
    | s P => rw [kj] at h2; exact h2
    | w => rw [kj] at h2; exact h2
    | x a C dd => rw [kj] at h2; exact h2
  · obtain ⟨n1, hj⟩ := sl hj
    obtain ⟨n2, hl⟩ := sl hl
    rw [kd_set_ne n1] at kj
    rw [kd_set_ne n2] at kl
    exact e.sep j l b b' q hj hl kj kl sj sl'
  · have np : ∀ a ∈ A, a ≠ p := fun a ha z => hA.own i d p h (isO_o k) hs (z ▸ ha)
    refine hA.sub (fun a ha => (hA.out a ha).1) (fun a ha => rem_ne (np a ha)) Ex.refl (fun j b q hj kj sj => ?_) fun j b kj hj => ?_
    · obtain ⟨n1, hj⟩ := sl hj
      rw [kd_set_ne n1] at kj
      exact hA.own j b q hj kj sj
    · obtain ⟨n1, hj⟩ := sl hj
      rw [kd_set_ne n1]
      exact ⟨rfl, hj, rfl⟩
end
end Dx
end S_DxAO
section S_DxAP
set_option Elab.async false
set_option linter.all false
set_option maxRecDepth 100000
set_option maxHeartbeats 2000000
namespace PySem
end PySem
end S_DxAP
section S_DxAR
set_option Elab.async false
set_option linter.all false
set_option maxRecDepth 100000
set_option maxHeartbeats 2000000
namespace Dx
open PySem L2 ItX
open PyProof.Rows hiding St
end Dx
end S_DxAR
section S_DxAS
set_option Elab.async false
set_option linter.all false
set_option maxRecDepth 100000
set_option maxHeartbeats 2000000
namespace Dx
open PySem L2 ItX
open PyProof.Rows hiding St
end Dx
end S_DxAS
section S_DxAT
set_option Elab.async false
set_option linter.all false
set_option maxRecDepth 100000
set_option maxHeartbeats 2000000
namespace Dx
open PySem L2 ItX
open PyProof.Rows hiding St
end Dx
end S_DxAT
section S_DxAU
set_option Elab.async false
set_option linter.all false
set_option maxRecDepth 100000
set_option maxHeartbeats 2000000
namespace Dx
open PySem L2 ItX
open PyProof.Rows hiding St
end Dx
end S_DxAU
section S_DxAV
set_option Elab.async false
set_option linter.all false
set_option maxRecDepth 100000
set_option maxHeartbeats 2000000
namespace Dx
open PySem L2 ItX
open PyProof.Rows hiding St
end Dx
end S_DxAV
section S_DxAW
set_option Elab.async false
set_option linter.all false
set_option maxRecDepth 100000
set_option maxHeartbeats 2000000
namespace Dx
open PySem L2 HandSPX
open PyProof.Rows hiding St
end Dx
end S_DxAW
section S_DxAX
set_option Elab.async false
set_option linter.all false
set_option maxRecDepth 100000
set_option maxHeartbeats 2000000
namespace Dx
open PySem L2 PySem.Spec
open PyProof.Rows hiding St passOn frameOf
end Dx
end S_DxAX
section S_DxAY
set_option Elab.async false
set_option linter.all false
set_option maxRecDepth 100000
set_option maxHeartbeats 2000000
namespace Dx
open PySem L2
open PyProof.Rows hiding St
end Dx
end S_DxAY
section S_DxAZ
set_option Elab.async false
set_option linter.all false
set_option maxRecDepth 100000
set_option maxHeartbeats 2000000
namespace Dx
open PySem L2
open PyProof.Rows hiding St
section
variable {X : Cx} {c : Cf} {L G G' : List Ow} {σ : St} {S0 H0 S H S' H' : Hp} {r : Rho} {pos : Pos} {e : Expr}
theorem RmA.snoc {A : List Addr} {xs : List V} {row : List D} {v : V} {d : D} (h : RmA c.K c.cm A S xs row) (hv : RmV c.K c.cm A S v d) : RmA c.K c.cm A S (xs ++ [v]) (row ++ [d]) := by
  refine ⟨by rw [List.length_append, List.length_append, h.1]; rfl, fun i u b hu hb => ?_⟩
  by_cases hi : i < row.length
  · rw [List.getElem?_append_left (by rw [h.1]; exact hi)] at hu
    rw [List.getElem?_append_left hi] at hb
    exact h.2 i u b hu hb
  · rw [List.getElem?_append_right (by rw [h.1]; omega), h.1] at hu
    rw [List.getElem?_append_right (by omega)] at hb
    cases hz : i - row.length with
    | zero =>
      rw [hz] at hu hb
      cases hu; cases hb
      exact hv
    | succ n =>
      rw [hz] at hb
      simp at hb
theorem RmA.dropLast {A : List Addr} {xs : List V} {row : List D} (h : RmA c.K c.cm A S xs row) : RmA c.K c.cm A S xs.dropLast row.dropLast := by
  refine ⟨by rw [List.length_dropLast, List.length_dropLast, h.1], fun i u b hu hb => ?_⟩
  rw [List.getElem?_dropLast] at hu hb
  split at hu
  · split at hb
    · exact h.2 i u b hu hb
    · cases hb
  · cases hu
/-- P.append(e), the new item a value -/
noncomputable def appW (i0 : Nat) (f : Rho → Res Nat) (fe : Rho → Res D) : Rho → SR := fun r => liftS r (f r) fun k => liftS r (fe r) fun d => liftS r (rowAt i0 r k) fun row => if isOwn d = true then .bad else guardS (row.length < sizeLine) (.nx (putRow i0 r k (row ++ [d])))
theorem ds_wapp (i0 : Nat) {b : Expr} {apos cpos : Pos} {f : Rho → Res Nat} {fe : Rho → Res D} {P0 : List Addr} (hg : Gok c G) (h0 : kd G i0 = .s P0) (h1 : ∀ j P, kd G j = .s P → j = i0) (ho : PE X b (tW c G f)) (he : PE X e (tV c G fe)) (hw : swapsWith (.Call (.Attribute b "append" apos) [e] [] cpos) none pos.line X.env = pure false := by rfl)
    (hbase : attributeBase b "append" X.env (eval b X.env) = eval b X.env := by rfl)
    (hfew : ((backTo cpos (starEach [e] X.env)).all (fun x => !x.1) && (backToKw cpos (keywordEach [] X.env)).all (fun x => x.1.isSome) && decide ([e].length + ([] : List Keyword).length + (if ([] : List Keyword).isEmpty then 0 else 1) < 30)) = true := by rfl)
    (hline : (apos.endLine == cpos.line) = true := by rfl) (hs : starEach [e] X.env = (false, eval e X.env) :: starEach [] X.env := by rfl) :
    PS X (.Expr (.Call (.Attribute b "append" apos) [e] [] cpos) pos) (sD c L G G (appW i0 f fe)) :=
  ps_imp (ps_expr (pe_app ho he hbase hfew hline hs) hw) fun E σ H ⟨S0, H0, S, r, ok, p⟩ => by
    obtain ⟨A, so⟩ := ok.sto
    refine ⟨S0, H0, S, r, A, ok, so, (PostS.lift hg ok p).imp fun k S1 H1 w1 ⟨o1, p1⟩ a hka => ?_⟩
    have so1 := so.go w1
    obtain ⟨_, _, xs0, hxs0⟩ := so1.out a (List.mem_of_getElem? hka)
    refine ⟨.inl ⟨rfl, xs0, .inl (.inl hxs0)⟩, st_seq hg o1 p1 fun d v S2 H2 w2 o2 m2 p2 => ?_⟩
    have so2 := so1.go w2
    obtain ⟨row, a', xs, g1, g2, g3, g4, p3⟩ := of_row h0 so2 (PostS.lift hg o2 p2)
    rw [hka] at g1; cases g1
    obtain ⟨_, p4⟩ := p3.go o2.ex
    split at p4
    · exact p4.elim
    · obtain ⟨hl, p5⟩ := p4.gd
      exact ⟨a, xs, v, rfl, rfl, g2, by rw [g3.1]; exact hl, p5 σ S2 _ (o2.mutW so2 h0 hka g4 h1 (g3.snoc (.inl m2)))⟩
theorem StoOk.setW {A : List Addr} (so : StoOk c.K c.cm H0 G S H σ r A) (hlen : σ.length = r.length) {k : Nat} {a : Addr} (i : Nat) (hi : i < G.length) (ha : A[k]? = some a) : StoOk c.K c.cm H0 (G.set i .w) S H (σ.set i (some (.ref a))) (r.set i (some (.own k))) A := by
  refine ⟨so.nod, so.out, fun j b p hj kj sj => ?_, fun j k' M' P kj hj => ?_, fun j k' kj hj => ?_⟩
  · have nj : i ≠ j := fun z => by subst z; rw [kd_set_o hi] at kj; cases kj
    rw [List.getElem?_set_ne nj] at hj sj
    rw [kd_set_ne nj] at kj
    exact so.own j b p hj kj sj
  · have nj : i ≠ j := fun z => by subst z; rw [kd_set_o hi] at kj; cases kj
    rw [List.getElem?_set_ne nj] at hj
    rw [kd_set_ne nj] at kj
    rw [List.getElem?_set_ne nj]
    exact so.st j k' M' P kj hj
  · rcases set_some hj with ⟨rfl, ea, hl⟩ | ⟨ne, hj⟩
    · cases ea
      exact ⟨a, ha, by rw [List.getElem?_set_self (by rw [hlen]; exact hl)]⟩
    · rw [kd_set_ne ne] at kj
      rw [List.getElem?_set_ne ne]
      exact so.al j k' kj hj
theorem putRow_set {i0 i k : Nat} {row : List D} {x : Option D} (h : i ≠ i0) : putRow i0 (r.set i x) k row = (putRow i0 r k row).set i x := by
  unfold putRow
  rw [List.getElem?_set_ne h]
  split
  · rename_i k0 M hd
    rw [hd]
    exact List.set_comm _ _ h
  · rfl
theorem rowsR_set {i0 i : Nat} {x : Option D} (h : i ≠ i0) : rowsR i0 (r.set i x) = rowsR i0 r := by
  unfold rowsR
  rw [List.getElem?_set_ne h]
/-- x = P.pop(), the last item one of the own lists -/
def popW (i0 i : Nat) (f : Rho → Res Nat) : Rho → SR := fun r => liftS r (f r) fun k => liftS r (rowAt i0 r k) fun row => match row[row.length - 1]? with
  | some (.own j) => .nx ((putRow i0 r k row.dropLast).set i (some (.own j)))
  | _ => .bad
theorem ds_wpop (i0 i : Nat) {x : Str} {b : Expr} {apos cpos pos' : Pos} {f : Rho → Res Nat} {P0 : List Addr} (hg : Gok c G) (hG : i < G.length) (h0 : kd G i0 = .s P0) (h1 : ∀ j P, kd G j = .s P → j = i0) (hne : i ≠ i0) (hN : X.N.Nodup) (hi : X.N[i]? = some x) (hx : Loc X.env.scope x) (ho : PE X b (tW c G f))
    (hbase : attributeBase b "pop" X.env (eval b X.env) = eval b X.env := by rfl) (hline : (apos.endLine == cpos.line) = true := by rfl)
    (hs : swapsWith (.Call (.Attribute b "pop" apos) [] [] cpos) (some (.Name x pos')) pos.line X.env = pure false := by rfl)
    (hf : X.fn x = true ∨ X.env.scope.names.lookup x = some .local := by first | exact .inl rfl | exact .inr rfl | assumption) :
    PS X (.Assign [.Name x pos'] (.Call (.Attribute b "pop" apos) [] [] cpos) pos) (sD c L G (G.set i .w) (popW i0 i f)) :=
  ps_imp (ps_set hN hi hx (pe_bm0 PySem.F.plainAttrs_list PySem.F.slot_list_pop PySem.F.type_list_pop mt_pop ho hbase hline) hs hf) fun E σ H ⟨S0, H0, S, r, ok, p⟩ => by
    obtain ⟨A, so⟩ := ok.sto
    refine ⟨S0, H0, S, r, A, ok, so, (PostS.lift hg ok p).imp fun k S1 H1 w1 ⟨o1, p1⟩ a hka => ?_⟩
    have so1 := so.go w1
    obtain ⟨row, a', xs, g1, g2, g3, g4, p3⟩ := of_row h0 so1 (PostS.lift hg o1 p1)
    rw [hka] at g1; cases g1
    obtain ⟨_, p4⟩ := p3.go o1.ex
    refine ⟨.inl ⟨rfl, xs, .inl (.inl g2)⟩, ?_⟩
    split at p4
    · rename_i j hlast
      have hlt := (List.getElem?_eq_some_iff.mp hlast).1
      have hxl : xs.length - 1 < xs.length := by rw [g3.1]; omega
      have hv : xs[xs.length - 1]? = some xs[xs.length - 1] := List.getElem?_eq_getElem hxl
      have hr := g3.2 (xs.length - 1) _ _ hv (by rw [g3.1]; exact hlast)
      generalize hgv : xs[xs.length - 1] = v at hv hr
      rcases hr with hr | ⟨j', a2, hj, ha2, hva⟩
      · cases hr
      · cases hj
        subst hva
        refine ⟨a, xs, .ref a2, rfl, rfl, g2, hv, ?_⟩
        have e1 := o1.setW so1 i hG ha2
        have so2 := so1.setW o1.len i hG ha2
        have e2 := e1.mutW so2 (P0 := P0) (by rw [kd_set_ne hne]; exact h0) hka (by rw [rowsR_set hne]; exact g4) (fun j P hj => by
          by_cases hji : i = j
          · subst hji; rw [kd_set_o hG] at hj; cases hj
          · rw [kd_set_ne hji] at hj; exact h1 j P hj) g3.dropLast
        rw [putRow_set hne] at e2
        exact p4 _ S1 _ e2
    · exact p4.elim
/-- [a, b, []] -/
def lit3 (f1 f2 : Rho → Res D) : Rho → Res D := fun r => (f1 r).bind fun d1 => (f2 r).bind fun d2 => if isOwn d1 = true ∨ isOwn d2 = true then .bad else .ok (.st 0 [[d1, d2, .own 1], []])
theorem rma_nil {A : List Addr} : RmA c.K c.cm A S [] [] := ⟨rfl, fun i v d h => by simp at h⟩
theorem rma_3 {A : List Addr} {v1 v2 : V} {d1 d2 : D} {a : Addr} {k : Nat} (h1 : Rp c.K c.cm S v1 d1) (h2 : Rp c.K c.cm S v2 d2) (h3 : A[k]? = some a) : RmA c.K c.cm A S [v1, v2, .ref a] [d1, d2, .own k] :=
  ((rma_nil.snoc (.inl h1)).snoc (.inl h2)).snoc (.inr ⟨k, a, rfl, h3, rfl⟩)
variable {a b : Expr} {f1 f2 : Rho → Res D} {p1 p2 : Pos}
theorem dm_lit3 (ha : PE X a (tV c G f1)) (hb : PE X b (tV c G f2)) (s1 : starEach [a, b, .List [] p2] X.env = (false, eval a X.env) :: starEach [b, .List [] p2] X.env := by rfl) (s2 : starEach [b, .List [] p2] X.env = (false, eval b X.env) :: starEach [.List [] p2] X.env := by rfl) (s3 : starEach [.List [] p2] X.env = (false, eval (.List [] p2) X.env) :: starEach [] X.env := by rfl) :
    PE X (.List [a, b, .List [] p2] p1) (rd c G (lit3 f1 f2) (mG c)) := pe_imp (pe_lst (pa_cons ha (pa_cons hb (pa_cons (pe_lst pa_nil) pa_nil s3) s2) s1)) fun σ H Q ⟨S0, H0, S, r, ok, p⟩ =>
  rd_seq ok p fun d1 v1 S1 H1 w1 o1 m1 p1 => rd_seq o1 p1 fun d2 v2 S2 H2 w2 o2 m2 p2 => by
    refine ⟨Nat.zero_le _, fun q hq => ⟨Nat.le_trans (show 3 ≤ 100000 by omega) sz5, fun z hz => ?_⟩⟩
    split at p2
    · exact p2.elim
    · have nzq : z ≠ q := fun e => by subst e; rw [upd_same] at hz; cases hz
      have hz2 : H2 z = none := by rw [upd_ne nzq] at hz; exact hz
      have nS : ∀ x, H2 x = none → S2 x = none := fun x hx => o2.ex.nn hx
      have fw : Fwd S2 H2 S2 (upd (upd H2 q (.lst [])) z (.lst [v1, v2, .ref q])) := (Fwd.heap o2.ex hq).trans (Fwd.heap (o2.ex.put (nS q hq)) hz)
      refine p2 S2 _ fw _ ⟨0, _, [z, q], rfl, by simp [nzq], rfl, ⟨z, rfl, rfl⟩, fun x hx => ?_, fun n row hn => ?_⟩
      · have hxx : H2 x = none := by
          rcases List.mem_cons.mp hx with rfl | hx
          · exact hz2
          · cases List.mem_singleton.mp hx; exact hq
        exact ⟨(w1.h.trans w2.h).nn hxx, nS x hxx⟩
      · match n, hn with
        | 0, hn =>
          cases hn
          exact ⟨z, _, rfl, upd_same, rma_3 (k := 1) (m1.mono w2.s) m2 rfl⟩
        | 1, hn =>
          cases hn
          exact ⟨q, [], rfl, by rw [upd_ne (Ne.symm nzq), upd_same], rma_nil⟩
        | n + 2, hn => simp at hn
/-- [[a, b, []]] -/
def lit4 (f1 f2 : Rho → Res D) : Rho → Res D := fun r => (f1 r).bind fun d1 => (f2 r).bind fun d2 => if isOwn d1 = true ∨ isOwn d2 = true then .bad else .ok (.st 0 [[.own 1], [d1, d2, .own 2], []])
theorem dm_lit4 {p0 : Pos} (ha : PE X a (tV c G f1)) (hb : PE X b (tV c G f2)) (s1 : starEach [a, b, .List [] p2] X.env = (false, eval a X.env) :: starEach [b, .List [] p2] X.env := by rfl) (s2 : starEach [b, .List [] p2] X.env = (false, eval b X.env) :: starEach [.List [] p2] X.env := by rfl) (s3 : starEach [.List [] p2] X.env = (false, eval (.List [] p2) X.env) :: starEach [] X.env := by rfl)
    (s4 : starEach [.List [a, b, .List [] p2] p1] X.env = (false, eval (.List [a, b, .List [] p2] p1) X.env) :: starEach [] X.env := by rfl) :
    PE X (.List [.List [a, b, .List [] p2] p1] p0) (rd c G (lit4 f1 f2) (mG c)) := pe_imp (pe_lst (pa_cons (pe_lst (pa_cons ha (pa_cons hb (pa_cons (pe_lst pa_nil) pa_nil s3) s2) s1)) pa_nil s4)) fun σ H Q ⟨S0, H0, S, r, ok, p⟩ =>
  rd_seq ok p fun d1 v1 S1 H1 w1 o1 m1 p1 => rd_seq o1 p1 fun d2 v2 S2 H2 w2 o2 m2 p2 => by
    refine ⟨Nat.zero_le _, fun q hq => ⟨Nat.le_trans (show 3 ≤ 100000 by omega) sz5, fun z hz => ⟨Nat.le_trans (show 1 ≤ 100000 by omega) sz5, fun y hy => ?_⟩⟩⟩
    split at p2
    · exact p2.elim
    · have nzq : z ≠ q := fun e => by subst e; rw [upd_same] at hz; cases hz
      have nyz : y ≠ z := fun e => by subst e; rw [upd_same] at hy; cases hy
      have nyq : y ≠ q := fun e => by subst e; rw [upd_ne nyz, upd_same] at hy; cases hy
      have hz2 : H2 z = none := by rw [upd_ne nzq] at hz; exact hz
      have hy2 : H2 y = none := by rw [upd_ne nyz, upd_ne nyq] at hy; exact hy
      have nS : ∀ x, H2 x = none → S2 x = none := fun x hx => o2.ex.nn hx
      have e1 : Ex S2 (upd H2 q (.lst [])) := o2.ex.put (nS q hq)
      have e2 : Ex S2 (upd (upd H2 q (.lst [])) z (.lst [v1, v2, .ref q])) := e1.put (nS z hz2)
      have fw : Fwd S2 H2 S2 (upd (upd (upd H2 q (.lst [])) z (.lst [v1, v2, .ref q])) y (.lst [.ref z])) := ((Fwd.heap o2.ex hq).trans (Fwd.heap e1 hz)).trans (Fwd.heap e2 hy)
      refine p2 S2 _ fw _ ⟨0, _, [y, z, q], rfl, by simp [nzq, nyz, nyq], rfl, ⟨y, rfl, rfl⟩, fun x hx => ?_, fun n row hn => ?_⟩
      · have hxx : H2 x = none := by
          rcases List.mem_cons.mp hx with rfl | hx
          · exact hy2
          · rcases List.mem_cons.mp hx with rfl | hx
            · exact hz2
            · cases List.mem_singleton.mp hx; exact hq
        exact ⟨(w1.h.trans w2.h).nn hxx, nS x hxx⟩
      · match n, hn with
        | 0, hn =>
          cases hn
          exact ⟨y, _, rfl, upd_same, rma_nil.snoc (.inr ⟨1, z, rfl, rfl, rfl⟩)⟩
        | 1, hn =>
          cases hn
          exact ⟨z, _, rfl, by rw [upd_ne (Ne.symm nyz), upd_same], rma_3 (k := 2) (m1.mono w2.s) m2 rfl⟩
        | 2, hn =>
          cases hn
          exact ⟨q, [], rfl, by rw [upd_ne (Ne.symm nyq), upd_ne (Ne.symm nzq), upd_same], rma_nil⟩
        | n + 3, hn => simp at hn
def shD (n : Nat) : D → D
  | .own j => .own (n + j)
  | d => d
def growR (i0 : Nat) (r : Rho) (M0 : List (List D)) : Rho := match r[i0]? with
  | some (some (.st k M)) => r.set i0 (some (.st k (M ++ M0.map (List.map (shD M.length)))))
  | _ => r
theorem RmA.left {A A0 : List Addr} {xs : List V} {row : List D} (h : RmA c.K c.cm A S xs row) : RmA c.K c.cm (A ++ A0) S xs row := ⟨h.1, fun i v d hv hd => by
  rcases h.2 i v d hv hd with h | ⟨k, a, e1, e2, e3⟩
  · exact .inl h
  · exact .inr ⟨k, a, e1, by rw [List.getElem?_append_left (List.getElem?_eq_some_iff.mp e2).1]; exact e2, e3⟩⟩
theorem RmA.shift {A A0 : List Addr} {xs : List V} {row : List D} (h : RmA c.K c.cm A0 S xs row) : RmA c.K c.cm (A ++ A0) S xs (row.map (shD A.length)) := by
  refine ⟨by rw [List.length_map]; exact h.1, fun i v d hv hd => ?_⟩
  rw [List.getElem?_map] at hd
  cases hd0 : row[i]? with
  | none => rw [hd0] at hd; cases hd
  | some d0 =>
    rw [hd0] at hd
    cases hd
    rcases h.2 i v d0 hv hd0 with h | ⟨k, a, e1, e2, e3⟩
    · refine .inl ?_
      cases d0 with
      | own k => cases h
      | _ => exact h
    · subst e1
      exact .inr ⟨A.length + k, a, rfl, by rw [List.getElem?_append_right (by omega), Nat.add_sub_cancel_left]; exact e2, e3⟩
theorem EnvOk.grow (e : EnvOk c S0 H0 G S H σ r) {A : List Addr} (so : StoOk c.K c.cm H0 G S H σ r A) {i0 k : Nat} {M : List (List D)} {P0 : List Addr} (h0 : kd G i0 = .s P0) (h1 : ∀ j P, kd G j = .s P → j = i0) (hd : r[i0]? = some (some (.st k M))) {A0 : List Addr} {M0 : List (List D)} (n1 : A0.Nodup) (n2 : A0.length = M0.length)
    (n3 : ∀ a ∈ A0, a ∉ A ∧ S a = none ∧ H0 a = none) (n4 : ∀ i d p, r[i]? = some (some d) → isO (kd G i) → σ[i]? = some (some (.ref p)) → p ∉ A0) (n5 : ∀ (n : Nat) row, M0[n]? = some row → ∃ a xs, A0[n]? = some a ∧ H a = some (.lst xs) ∧ RmA c.K c.cm A0 S xs row) :
    EnvOk c S0 H0 G S H σ (growR i0 r M0) ∧ StoOk c.K c.cm H0 G S H σ (growR i0 r M0) (A ++ A0) := by
  have hg : growR i0 r M0 = r.set i0 (some (.st k (M ++ M0.map (List.map (shD M.length))))) := by unfold growR; rw [hd]
  rw [hg]
  obtain ⟨y1, y2, y3⟩ := so.st i0 k M P0 h0 hd
  have hAM : A.length = M.length := y1.2
  have sm : ∀ j b, (r.set i0 (some (.st k (M ++ M0.map (List.map (shD M.length))))))[j]? = some (some b) → (∀ P, kd G j ≠ .s P) → r[j]? = some (some b) := fun j b hb kj => by
    rcases set_some hb with ⟨rfl, _, _⟩ | ⟨_, hb⟩
    · exact absurd h0 (kj _)
    · exact hb
  have sto : StoOk c.K c.cm H0 G S H σ (r.set i0 (some (.st k (M ++ M0.map (List.map (shD M.length)))))) (A ++ A0) := by
    refine ⟨List.nodup_append.mpr ⟨so.nod, n1, fun a ha b hb z => (n3 b hb).1 (z ▸ ha)⟩, fun a ha => ?_, fun j b p hj kj sj => ?_, fun j k' M' P kj hj => ?_, fun j k' kj hj => ?_⟩
    · rcases List.mem_append.mp ha with ha | ha
      · exact so.out a ha
      · obtain ⟨n, hn⟩ := List.mem_iff_getElem?.mp ha
        have hlt : n < M0.length := by rw [← n2]; exact (List.getElem?_eq_some_iff.mp hn).1
        obtain ⟨a', xs, z1, z2, z3⟩ := n5 n M0[n] (List.getElem?_eq_getElem hlt)
        rw [hn] at z1; cases z1
        exact ⟨(n3 a ha).2.1, (n3 a ha).2.2, xs, z2⟩
    · have hj' := sm j b hj (by intro _ z; rw [z] at kj; cases kj)
      rw [List.mem_append]
      rintro (z | z)
      · exact so.own j b p hj' kj sj z
      · exact n4 j b p hj' kj sj z
    · have hj0 := h1 j P kj
      subst hj0
      rcases set_some hj with ⟨_, ea, _⟩ | ⟨ne, _⟩
      · cases ea
        obtain ⟨x1, ⟨a, x2, x3⟩, x4⟩ := so.st j _ _ P kj hd
        refine ⟨⟨x1.1.trans (List.prefix_append _ _), by rw [List.length_append, List.length_append, List.length_map, hAM, n2]⟩, ⟨a, by rw [List.getElem?_append_left (List.getElem?_eq_some_iff.mp x2).1]; exact x2, x3⟩, fun n row hn => ?_⟩
        by_cases hnl : n < M.length
        · rw [List.getElem?_append_left hnl] at hn
          obtain ⟨a2, xs2, g1, g2, g3⟩ := x4 n row hn
          exact ⟨a2, xs2, by rw [List.getElem?_append_left (by omega)]; exact g1, g2, g3.left⟩
        · rw [List.getElem?_append_right (by omega), List.getElem?_map] at hn
          cases hr0 : M0[n - M.length]? with
          | none => rw [hr0] at hn; cases hn
          | some row0 =>
            rw [hr0] at hn
            cases hn
            obtain ⟨a2, xs2, g1, g2, g3⟩ := n5 _ row0 hr0
            refine ⟨a2, xs2, by rw [List.getElem?_append_right (by omega), hAM]; exact g1, g2, ?_⟩
            rw [← hAM]
            exact g3.shift
      · exact absurd rfl ne
    · obtain ⟨a, x1, x2⟩ := so.al j k' kj (sm j _ hj (by rw [kj]; intro _ z; cases z))
      exact ⟨a, by rw [List.getElem?_append_left (List.getElem?_eq_some_iff.mp x1).1]; exact x1, x2⟩
  refine ⟨⟨e.fwd, by simp [e.len], fun j b hb => ?_, fun j l b b' q hj hk kj kk sj sk => ?_, _, sto⟩, sto⟩
  · rcases set_some hb with ⟨rfl, ea, hl⟩ | ⟨ne, hb⟩
    · cases ea
      obtain ⟨v, q1, q2⟩ := e.slot i0 _ hd
      exact ⟨v, q1, by rw [h0]; exact ⟨_, _, rfl⟩⟩
    · exact e.slot j b hb
  · exact e.sep j l b b' q (sm j b hj (by intro _ z; rw [z] at kj; cases kj)) (sm l b' hk (by intro _ z; rw [z] at kk; cases kk)) kj kk sj sk
/-- P.append([a, b, []]), the new item one of the own lists from now on -/
noncomputable def appWN (i0 : Nat) (f : Rho → Res Nat) (fe : Rho → Res D) : Rho → SR := fun r => liftS r (f r) fun k => liftS r (fe r) fun d => liftS r (rowAt i0 r k) fun row => match d with
  | .st k0 M0 => guardS (row.length < sizeLine) (.nx (putRow i0 (growR i0 r M0) k (row ++ [.own ((rowsR i0 r).length + k0)])))
  | _ => .bad
theorem ds_wappN (i0 : Nat) {b : Expr} {apos cpos : Pos} {f : Rho → Res Nat} {fe : Rho → Res D} {P0 : List Addr} (hg : Gok c G) (h0 : kd G i0 = .s P0) (h1 : ∀ j P, kd G j = .s P → j = i0) (ho : PE X b (tW c G f)) (he : PE X e (rd c G fe (mG c))) (hw : swapsWith (.Call (.Attribute b "append" apos) [e] [] cpos) none pos.line X.env = pure false := by rfl)
    (hbase : attributeBase b "append" X.env (eval b X.env) = eval b X.env := by rfl)
    (hfew : ((backTo cpos (starEach [e] X.env)).all (fun x => !x.1) && (backToKw cpos (keywordEach [] X.env)).all (fun x => x.1.isSome) && decide ([e].length + ([] : List Keyword).length + (if ([] : List Keyword).isEmpty then 0 else 1) < 30)) = true := by rfl)
    (hline : (apos.endLine == cpos.line) = true := by rfl) (hs : starEach [e] X.env = (false, eval e X.env) :: starEach [] X.env := by rfl) :
    PS X (.Expr (.Call (.Attribute b "append" apos) [e] [] cpos) pos) (sD c L G G (appWN i0 f fe)) :=
  ps_imp (ps_expr (pe_app ho he hbase hfew hline hs) hw) fun E σ H ⟨S0, H0, S, r, ok, p⟩ => by
    obtain ⟨A, so⟩ := ok.sto
    refine ⟨S0, H0, S, r, A, ok, so, (PostS.lift hg ok p).imp fun k S1 H1 w1 ⟨o1, p1⟩ a hka => ?_⟩
    have so1 := so.go w1
    obtain ⟨_, _, xs0, hxs0⟩ := so1.out a (List.mem_of_getElem? hka)
    refine ⟨.inl ⟨rfl, xs0, .inl (.inl hxs0)⟩, st_seq hg o1 p1 fun d v S2 H2 w2 o2 m2 p2 => ?_⟩
    have so2 := so1.go w2
    obtain ⟨row, a', xs, g1, g2, g3, g4, p3⟩ := of_row h0 so2 (PostS.lift hg o2 p2)
    rw [hka] at g1; cases g1
    obtain ⟨_, p4⟩ := p3.go o2.ex
    obtain ⟨k0, M0, A0, rfl, m3, m4, ⟨a2, m5, rfl⟩, m6, m7⟩ := m2
    obtain ⟨hl, p5⟩ := p4.gd
    obtain ⟨k1, M, hd⟩ : ∃ k1 M, r[i0]? = some (some (.st k1 M)) := by
      have g4' := g4
      unfold rowsR at g4'
      split at g4'
      · rename_i k1 M hd; exact ⟨k1, M, hd⟩
      · simp at g4'
    have hrows : rowsR i0 r = M := by unfold rowsR; rw [hd]
    obtain ⟨y1, _, _⟩ := so2.st i0 k1 M P0 h0 hd
    obtain ⟨e3, so3⟩ := o2.grow so2 h0 h1 hd m3 m4 (fun x hx => ⟨(fun z => by
      obtain ⟨_, _, ys, hys⟩ := so1.out x z
      rw [(m6 x hx).1] at hys; cases hys), (m6 x hx).2, o1.fwd.h.nn (m6 x hx).1⟩) (fun i d p hi ki si hp => by
      obtain ⟨q, ho', s1, s2, _⟩ := o1.ownI ki hi
      rw [si] at s1; cases s1
      rw [(m6 p hp).1] at s2; cases s2) m7
    have hkl : k < M.length := by
      rw [← y1.2]; exact (List.getElem?_eq_some_iff.mp hka).1
    have hrow' : (rowsR i0 (growR i0 r M0))[k]? = some row := by
      have hgr : growR i0 r M0 = r.set i0 (some (.st k1 (M ++ M0.map (List.map (shD M.length))))) := by unfold growR; rw [hd]
      have hi0 : i0 < r.length := (List.getElem?_eq_some_iff.mp hd).1
      unfold rowsR
      rw [hgr, List.getElem?_set_self hi0]
      dsimp only
      rw [List.getElem?_append_left hkl, ← hrows]
      exact g4
    refine ⟨a, xs, .ref a2, rfl, rfl, g2, by rw [g3.1]; exact hl, p5 σ S2 _ (e3.mutW so3 h0 (by rw [List.getElem?_append_left (List.getElem?_eq_some_iff.mp hka).1]; exact hka) hrow' h1 (g3.left.snoc (.inr ⟨_, a2, rfl, ?_, rfl⟩)))⟩
    rw [hrows, ← y1.2, List.getElem?_append_right (by omega), Nat.add_sub_cancel_left]
    exact m5
end
end Dx
end S_DxAZ
section S_DxBA
set_option Elab.async false
set_option linter.all false
set_option maxRecDepth 100000
set_option maxHeartbeats 2000000
namespace Dx
open PySem L2
open PyProof.Rows hiding St
def remA (H : Hp) (A : List Addr) : Hp := fun x => if x ∈ A then none else H x
theorem remA_in {H : Hp} {A : List Addr} {x : Addr} (h : x ∈ A) : remA H A x = none := if_pos h
theorem remA_out {H : Hp} {A : List Addr} {x : Addr} (h : x ∉ A) : remA H A x = H x := if_neg h
theorem Ex.remA (H : Hp) (A : List Addr) : Ex (remA H A) H := fun a o h => by
  by_cases ha : a ∈ A
  · rw [remA_in ha] at h; cases h
  · rw [remA_out ha] at h; exact h
/-- what such a def promises -/
def spS (K : PySem.W.Frag) (cm : CM) (F : Nat → List (List D) → Res (List (List D))) : Sp := fun vs H Q E => ∃ (A : List Addr) (S : Hp) (k : Nat) (M : List (List D)) (a : Addr), vs = [.ref a] ∧ A.Nodup ∧ A.length = M.length ∧ A[k]? = some a ∧ (∀ x ∈ A, S x = none) ∧ Ex S (remA H A) ∧
  (∀ (n : Nat) row, M[n]? = some row → ∃ b xs, A[n]? = some b ∧ H b = some (.lst xs) ∧ RmA K cm A S xs row) ∧
  ∃ M', F k M = .ok M' ∧ ∀ S' H' A', Fwd S (remA H A) S' H' → A <+: A' → A'.Nodup → A'.length = M'.length → (∀ x ∈ A', S' x = none ∧ remA H A x = none) → (∀ (n : Nat) row, M'[n]? = some row → ∃ b xs, A'[n]? = some b ∧ H' b = some (.lst xs) ∧ RmA K cm A' S' xs row) → Q .non H'
def runS (n : Nat) (Fb : Rho → SR) (k : Nat) (M : List (List D)) : Res (List (List D)) := match Fb (startR n [.st k M]) with
  | .nx r => match r[0]? with
    | some (some (D.st _ M')) => .ok M'
    | _ => .bad
  | _ => .bad
def GS (A : List Addr) (n : Nat) : List Ow := .s A :: List.replicate (n - 1) .v
theorem kd_GS_succ {A : List Addr} {n i : Nat} : kd (GS A n) (i + 1) = .v := by
  unfold kd GS
  rw [List.getD_eq_getElem?_getD, List.getElem?_cons_succ, List.getElem?_replicate]
  split <;> rfl
section
variable {c : Cf} {S0 H0 S H S' H' : Hp} {G : List Ow} {σ : St} {r : Rho}
theorem env_startS {N : List Str} {A : List Addr} {k : Nat} {M : List (List D)} {a : Addr} (n1 : A.Nodup) (n2 : A.length = M.length) (n3 : A[k]? = some a) (n4 : ∀ x ∈ A, S x = none) (ex : Ex S (remA H A))
    (n5 : ∀ (n : Nat) row, M[n]? = some row → ∃ b xs, A[n]? = some b ∧ H b = some (.lst xs) ∧ RmA c.K c.cm A S xs row) (hN : 1 ≤ N.length) : EnvOk c S (remA H A) (GS A N.length) S H (L2.start N [.ref a]) (startR N.length [.st k M]) := by
  have succ : ∀ (i : Nat) (d : D), (startR N.length [.st k M])[i + 1]? ≠ some (some d) := fun i d h => by
    have := startR_some h
    simp at this
  have kO : ∀ i, ¬ isO (kd (GS A N.length) i) := fun i h => by
    cases i with
    | zero => exact h
    | succ i => rw [kd_GS_succ] at h; exact h
  refine ⟨⟨Ex.refl, Ex.remA H A, ex.trans (Ex.remA H A), fun a o h n => by rw [n] at h; cases h⟩, by unfold L2.start startR; simp, fun i d h => ?_, fun i j d e p _ _ k _ _ _ => absurd k (kO i), A, n1, fun x hx => ?_, fun i d p _ k _ => absurd k (kO i), fun i k' M' P hi hr => ?_, fun i k' hi hr => ?_⟩
  · cases i with
    | zero =>
      have h : some (some (D.st k M)) = some (some d) := h
      cases h
      exact ⟨.ref a, by unfold L2.start; simp, k, M, rfl⟩
    | succ i => exact absurd h (succ i d)
  · obtain ⟨n, hn⟩ := List.mem_iff_getElem?.mp hx
    have hlt : n < M.length := by rw [← n2]; exact (List.getElem?_eq_some_iff.mp hn).1
    obtain ⟨a', xs, z1, z2, z3⟩ := n5 n M[n] (List.getElem?_eq_getElem hlt)
    rw [hn] at z1; cases z1
    exact ⟨n4 x hx, remA_in hx, xs, z2⟩
  · cases i with
    | zero =>
      have hr : some (some (D.st k M)) = some (some (.st k' M')) := hr
      cases hr
      have hi : Ow.s A = .s P := hi
      cases hi
      exact ⟨⟨List.prefix_refl _, n2⟩, ⟨a, n3, by unfold L2.start; simp⟩, n5⟩
    | succ i => exact absurd hr (succ i _)
  · cases i with
    | zero => cases hi
    | succ i => exact absurd hr (succ i _)
/-- back in the caller -/
theorem EnvOk.backS (e : EnvOk c S0 H0 G S H σ r) {A A' : List Addr} (so : StoOk c.K c.cm H0 G S H σ r A) {i0 k : Nat} {M M' : List (List D)} {P0 : List Addr} (h0 : kd G i0 = .s P0) (h1 : ∀ j P, kd G j = .s P → j = i0) (hd : r[i0]? = some (some (.st k M)))
    (fw : Fwd S (remA H A) S' H') (pre : A <+: A') (n1 : A'.Nodup) (n2 : A'.length = M'.length) (n3 : ∀ x ∈ A', S' x = none ∧ remA H A x = none) (n5 : ∀ (n : Nat) row, M'[n]? = some row → ∃ b xs, A'[n]? = some b ∧ H' b = some (.lst xs) ∧ RmA c.K c.cm A' S' xs row) :
    EnvOk c S0 H0 G S' H' σ (r.set i0 (some (.st k M'))) := by
  have x0 : Ex H0 (remA H A) := fun a o h => by
    have hn : a ∉ A := fun z => by rw [(so.out a z).2.1] at h; cases h
    rw [remA_out hn]; exact e.fwd.h a o h
  have xS : Ex S (remA H A) := fun a o h => by
    have hn : a ∉ A := fun z => by rw [(so.out a z).1] at h; cases h
    rw [remA_out hn]; exact e.fwd.sub a o h
  have f0 : Fwd S0 H0 S (remA H A) := ⟨e.fwd.s, x0, xS, e.fwd.new⟩
  have up : ∀ {n : Nat} {b : Addr}, A[n]? = some b → A'[n]? = some b := fun {n b} h => by
    obtain ⟨t, rfl⟩ := pre
    rw [List.getElem?_append_left (List.getElem?_eq_some_iff.mp h).1]; exact h
  have sm : ∀ j b, (r.set i0 (some (.st k M')))[j]? = some (some b) → (∀ P, kd G j ≠ .s P) → r[j]? = some (some b) := fun j b hb kj => by
    rcases set_some hb with ⟨rfl, _, _⟩ | ⟨_, hb⟩
    · exact absurd h0 (kj _)
    · exact hb
  have own : ∀ j b p, r[j]? = some (some b) → isO (kd G j) → σ[j]? = some (some (.ref p)) → p ∉ A' := fun j b p hj kj sj hp => by
    have hpA := so.own j b p hj kj sj
    obtain ⟨q, ho, s1, s2, _⟩ := e.ownI kj hj
    rw [sj] at s1; cases s1
    have := (n3 p hp).2
    rw [remA_out hpA, s2] at this; cases this
  refine ⟨f0.trans fw, by simp [e.len], fun j b hb => ?_, fun j l b b' q hj hk kj kk sj sk => ?_, A', n1, fun x hx => ?_, fun j b p hj kj sj => ?_, fun j k' M2 P kj hj => ?_, fun j k' kj hj => ?_⟩
  · rcases set_some hb with ⟨rfl, ea, hl⟩ | ⟨ne, hb⟩
    · cases ea
      obtain ⟨v, q1, q2⟩ := e.slot i0 _ hd
      exact ⟨v, q1, by rw [h0]; exact ⟨_, _, rfl⟩⟩
    · obtain ⟨u, q1, q2⟩ := e.slot j b hb
      refine ⟨u, q1, ?_⟩
      have q3 : SlotOk c H0 S (remA H A) (kd G j) u b := by
        cases kj : kd G j with
        | v => rw [kj] at q2; exact q2
        | b => rw [kj] at q2; exact q2
        | s P => rw [kj] at q2; exact q2
        | w => rw [kj] at q2; exact q2
        | x a C dd => rw [kj] at q2; exact q2
        | o =>
          rw [kj] at q2
          obtain ⟨q, hq, z1, z2, z3, z4, z5⟩ := q2
          subst z1
          exact ⟨q, hq, rfl, by rw [remA_out (so.own j b q hb (isO_o kj) q1)]; exact z2, z3, z4, z5⟩
        | i a' =>
          rw [kj] at q2
          obtain ⟨z0, q, hq, z1, z2, z3, z4, z5⟩ := q2
          subst z1
          exact ⟨z0, q, hq, rfl, by rw [remA_out (so.own j b q hb (by rw [kj]; trivial) q1)]; exact z2, z3, z4, z5⟩
      exact q3.mono fw
  · exact e.sep j l b b' q (sm j b hj (by intro _ z; rw [z] at kj; cases kj)) (sm l b' hk (by intro _ z; rw [z] at kk; cases kk)) kj kk sj sk
  · obtain ⟨n, hn⟩ := List.mem_iff_getElem?.mp hx
    have hlt : n < M'.length := by rw [← n2]; exact (List.getElem?_eq_some_iff.mp hn).1
    obtain ⟨a', xs, z1, z2, z3⟩ := n5 n M'[n] (List.getElem?_eq_getElem hlt)
    rw [hn] at z1; cases z1
    exact ⟨(n3 x hx).1, x0.nn (n3 x hx).2, xs, z2⟩
  · exact own j b p (sm j b hj (by intro _ z; rw [z] at kj; cases kj)) kj sj
  · have hj0 := h1 j P kj
    subst hj0
    rcases set_some hj with ⟨_, ea, _⟩ | ⟨ne, _⟩
    · cases ea
      obtain ⟨x1, ⟨a, x2, x3⟩, _⟩ := so.st j _ _ P kj hd
      exact ⟨⟨x1.1.trans pre, n2⟩, ⟨a, up x2, x3⟩, n5⟩
    · exact absurd rfl ne
  · obtain ⟨a, x1, x2⟩ := so.al j k' kj (sm j _ hj (by rw [kj]; intro _ z; cases z))
    exact ⟨a, up x1, x2⟩
end
section
variable {P : Program} {w : World} {K : PySem.W.Frag} {mg : Str → Option Value} {base : Heap} {cm : CM}
/-- THE RULE for such a def -/
theorem dokS {x qual : Str} {st : Stmt} {f : Addr} {fd : FuncData} {N ps : List Str} {k : Nat} {Fb : Rho → SR} (F : Fun K x qual st f fd) (S : FnScope N ps (defScope st)) (hm : 1 = ps.length) (hn : ps.length ≤ N.length)
    {G' : List Addr → List Ow} (hG : ∀ A, kd (G' A) 0 = .s A)
    (hb : ∀ (cdv : Value) (A : Around) (outer : List Env) (s : Shared) (H : Hp) (E : XK) (Ad : List Addr), Room k (A.deeper (PyProof.Rows.envOfC qual (defScope st) s.heap.objs.size f cdv)) →
      PSs (cxOf (L2.CX P w) P w K mg base N qual (defScope st) f cdv A outer s H E) (defBody st) (sD (cfE K cm false E) [] (GS Ad N.length) (G' Ad) Fb)) :
    FnOk P w K mg base (L2.CX P w) (k + 1) f fd ps (spS K cm (runS N.length Fb)) := by
  refine F.okX S (fun vs H Q E h => ?_) (fun cdv A outer s H vs Q E hr h => ?_)
  · obtain ⟨A, S, k, M, a, rfl, _⟩ := h
    exact hm
  · obtain ⟨Ad, S, k', M, a, rfl, n1, n2, n3, n4, ex, n5, M', hF, q⟩ := h
    refine ⟨_, hb cdv A outer s H E Ad hr, S, remA H Ad, S, startR N.length [.st k' M], env_startS (c := cfE K cm false E) n1 n2 n3 n4 ex n5 (by omega), ?_⟩
    unfold runS at hF
    cases hFb : Fb (startR N.length [.st k' M]) with
    | nx r =>
      rw [hFb] at hF
      dsimp only at hF
      split at hF
      · rename_i k2 M2 hr0
        cases hF
        intro σ' S' H' ok
        obtain ⟨A', so'⟩ := ok.sto
        obtain ⟨⟨z1, z2⟩, _, z4⟩ := so'.st 0 k2 _ Ad (hG Ad) hr0
        exact q S' H' A' ok.fwd z1 so'.nod z2 (fun x hx => ⟨(so'.out x hx).1, (so'.out x hx).2.1⟩) z4
      · cases hF
    | rt d => rw [hFb] at hF; cases hF
    | er r n ns vs => rw [hFb] at hF; cases hF
    | bk r => rw [hFb] at hF; cases hF
    | ct r => rw [hFb] at hF; cases hF
    | bad => rw [hFb] at hF; cases hF
end
section
variable {X : Cx} {c : Cf} {L G : List Ow} {pos : Pos} {k : Nat} {f : Addr} {fd : FuncData} {ps : List Str} {x y : Str} {p p2 p3 : Pos}
/-- f(P), the lists are changed -/
def clsF (i0 : Nat) (F : Nat → List (List D) → Res (List (List D))) : Rho → SR := fun r => match r[i0]? with
  | some (some (.st k M)) => match F k M with
    | .ok M' => .nx (r.set i0 (some (.st k M')))
    | _ => .bad
  | _ => .bad
theorem ds_callS (i0 : Nat) {F : Nat → List (List D) → Res (List (List D))} {P0 : List Addr} (F1 : FnOk X.prog X.w X.K X.mg X.base (L2.CX X.prog X.w) k f fd ps (spS c.K c.cm F)) (tk : Takes X c.W) (hr : Room k X.A) (hg : Gl X x) (hm : X.mg x = some (.ref f)) (hk : PySem.W.keepIn X.K (.ref f) = true) (hb : Binds X.K fd ps [])
    (h0 : kd G i0 = .s P0) (h1 : ∀ j P, kd G j = .s P → j = i0) (hv : PE X (.Name y p2) (tVar i0))
    (hdb : (x == ("__debug__" : Str)) = false := by decide) (he : starEach [.Name y p2] X.env = (false, eval (.Name y p2) X.env) :: starEach [] X.env := by rfl) (hpl : (backTo p3 (starEach [] X.env)).any (·.1) = false := by rfl)
    (hs : swapsWith (.Call (.Name x p) [.Name y p2] [] p3) none pos.line X.env = pure false := by rfl) :
    PS X (.Expr (.Call (.Name x p) [.Name y p2] [] p3) pos) (sD c L G G (clsF i0 F)) :=
  ps_imp (ps_expr (pe_callSD (E := fun σ cls d H => c.W cls d σ H) F1 hr hg hm hk hb .nil (fun σ => passAt tk σ) (pa_cons hv pa_nil) hdb he hpl) hs) fun E σ H ⟨S0, H0, S, r, ok, p⟩ => by
    unfold clsF at p
    split at p
    · rename_i k M hd
      split at p
      · rename_i M' hF
        obtain ⟨A, so⟩ := ok.sto
        obtain ⟨y1, ⟨a, y2, y3⟩, y4⟩ := so.st i0 k M P0 h0 hd
        refine ⟨.ref a, y3, ?_⟩
        show spS c.K c.cm F [V.ref a] H (fun x H1 => E.nx σ H1) (fun cls d H => c.W cls d σ H)
        have xS : Ex S (remA H A) := fun a o h => by
          have hn : a ∉ A := fun z => by rw [(so.out a z).1] at h; cases h
          rw [remA_out hn]; exact ok.fwd.sub a o h
        refine ⟨A, S, k, M, a, rfl, so.nod, y1.2, y2, fun x hx => (so.out x hx).1, xS, y4, M', hF, fun S' H' A' fw pre n1 n2 n3 n5 => ?_⟩
        exact p σ S' H' (ok.backS so h0 h1 hd fw pre n1 n2 n3 n5)
      · exact p.elim
    · exact p.elim
end
end Dx
end S_DxBA
section S_P_data
set_option Elab.async false
set_option linter.all false
set_option maxRecDepth 100000
namespace Lk
open PySem L2 Dx
noncomputable section
def isM_LaidError : Str → Option Bool := fun n => if n = "NoPlace" then some true else none
def isM_NoPlace : Str → Option Bool := fun n => if n = "NoPlace" then some true else none
def isM_Strange : Str → Option Bool := fun n => if n = "NoPlace" then some false else none
def isM_ValueError : Str → Option Bool := fun n => if n = "NoPlace" then some true else none
def Lp_node_at_1 : Rho → SR := (seqF (ifF (dOr (dT (dUn (isiD "str") (dVar 2))) (dNot (dT (dChain leD ltD (dC (.int 0)) (dVar 3) (dCall (g1 lenD) (dCons (dOp ixD (dVar 2) (dC (.int 2))) dNil)))))) (raiF "NoPlace" ["place"] false (dCons (dVar 1) dNil)) .nx) (setF 2 (dOp ixD (dOp ixD (dVar 2) (dC (.int 2))) (dVar 3))))
def Fb_node_at : Rho → SR := (seqF (setF 2 (dVar 0)) (seqF (forF (dIt itemsT (dVar 1)) (tgN 3) Lp_node_at_1) (retF (dVar 2))))
def F_node_at : List D → Res D := runF 4 false Fb_node_at
def Fb_element_at : Rho → SR := (seqF (setF 2 (dCall F_node_at (dCons (dVar 0) (dCons (dVar 1) dNil)))) (seqF (ifF (dT (dUn (isiD "str") (dVar 2))) (raiF "NoPlace" ["place"] false (dCons (dVar 1) dNil)) .nx) (retF (dVar 2))))
def F_element_at : List D → Res D := runF 3 false Fb_element_at
def Lp_elder_of_1 : Rho → SR := (ifF (dNot (dT (dUn (isiD "str") (dOp ixD (dVar 2) (dVar 3))))) (retF (dOp addD (dSl slD (dVar 1) dNoP (dPart (dUn negD (dC (.int 1))))) (dTup (dCons (dVar 3) dNil)))) .nx)
def Fb_elder_of : Rho → SR := (seqF (dropF (dCall F_element_at (dCons (dVar 0) (dCons (dVar 1) dNil)))) (seqF (ifF (dT (dOp eqD (dVar 1) (dTup dNil))) (retF (dC .non)) .nx) (seqF (setF 2 (dOp ixD (dCall F_node_at (dCons (dVar 0) (dCons (dSl slD (dVar 1) dNoP (dPart (dUn negD (dC (.int 1))))) dNil))) (dC (.int 2)))) (seqF (forF (dIts rng3 (dCons (dOp subD (dOp ixD (dVar 1) (dUn negD (dC (.int 1)))) (dC (.int 1))) (dCons (dUn negD (dC (.int 1))) (dCons (dUn negD (dC (.int 1))) dNil)))) (tgN 3) Lp_elder_of_1) (retF (dC .non))))))
def F_elder_of : List D → Res D := runF 4 false Fb_elder_of
def Fb_l_cell : Rho → SR := (seqF (ifF (dT (dOp eqD (dCall (g1 lenD) (dCons (dVar 0) dNil)) (dC (.int 0)))) (retF (dOp powD (dC (.int 10)) (dC (.int 18)))) .nx) (seqF (ifF (dT (dOp ltD (dVar 1) (dCall (g1 lenD) (dCons (dVar 0) dNil)))) (retF (dCall (g1 intD) (dCons (dOp ixD (dVar 0) (dVar 1)) dNil))) .nx) (retF (dOp addD (dOp mulX (dC (.int 7)) (dVar 1)) (dCall (g1 sumD) (dCons (dLc (dIt itemsL (dVar 0)) (tgN 2) dYes (dOp modD (dCall (g1 intD) (dCons (dVar 2) dNil)) (dC (.int 1000))) [2]) dNil))))))
def F_l_cell : List D → Res D := runF 3 false Fb_l_cell
def Lp_l_row_1 : Rho → SR := (ifF (dOr (dT (dOp gtD (dVar 3) (dC (.int 0)))) (dT (dOp eqD (dVar 0) (dOp powD (dC (.int 10)) (dC (.int 18)))))) (seqF (appF 2 (dOp modD (dCall (g1 intD) (dCons (dVar 3) dNil)) (dOp ixD (dVar 1) (dVar 4)))) (setF 3 (dOp fdivD (dVar 3) (dOp ixD (dVar 1) (dVar 4))))) (seqF (setF 5 (dOp modD (dCall (g1 intD) (dCons (dOp addD (dOp addD (dOp mulX (dVar 0) (dC (.int 48271))) (dOp mulX (dVar 4) (dC (.int 69621)))) (dC (.int 11))) dNil)) (dC (.int 2147483647)))) (seqF (setF 5 (dOp modD (dCall (g1 intD) (dCons (dOp addD (dOp addD (dOp mulX (dVar 5) (dOp addD (dC (.int 16807)) (dOp mulX (dC (.int 2)) (dVar 4)))) (dOp mulX (dOp mulX (dVar 4) (dVar 4)) (dC (.int 40692)))) (dC (.int 7))) dNil)) (dC (.int 2147483399)))) (appF 2 (dOp modD (dCall (g1 intD) (dCons (dOp fdivD (dVar 5) (dC (.int 31))) dNil)) (dOp ixD (dVar 1) (dVar 4)))))))
def Fb_l_row : Rho → SR := (seqF (setF 2 (dLst dNil)) (seqF (setF 3 (dCall (g2 (intsD max2)) (dCons (dC (.int 0)) (dCons (dOp subD (dVar 0) (dOp powD (dC (.int 10)) (dC (.int 18)))) dNil)))) (seqF (forF (dIts rng1 (dCons (dCall (g1 lenD) (dCons (dVar 1) dNil)) dNil)) (tgN 4) Lp_l_row_1) (retF (dVar 2)))))
def F_l_row : List D → Res D := runF 6 false Fb_l_row
def Lp_l_same_1 (Fself : List D → Res D) : Rho → SR := (ifF (dNot (dT (dCall Fself (dCons (dOp ixD (dVar 0) (dVar 2)) (dCons (dOp ixD (dVar 1) (dVar 2)) dNil))))) (retF (dC (.bl false))) .nx)
def Fb_l_same (Fself : List D → Res D) : Rho → SR := (seqF (ifF (dT (dOp (isD false) (dVar 1) (dC .non))) (retF (dOp (isD false) (dVar 0) (dC .non))) .nx) (seqF (ifF (dT (dUn (isiD "str") (dVar 1))) (retF (dAndV (dUn (isiD "str") (dVar 0)) (dOp eqD (dVar 0) (dVar 1)))) .nx) (seqF (ifF (dT (dUn (isiD "int") (dVar 1))) (retF (dAndV (dUn (isiD "int") (dVar 0)) (dAndV (dNotV (dUn (isiD "bool") (dVar 0))) (dOp eqD (dVar 0) (dVar 1))))) .nx) (seqF (ifF (dOr (dT (dOp neD (dUn (isiD "tuple") (dVar 1)) (dUn (isiD "tuple") (dVar 0)))) (dT (dOp neD (dUn (isiD "list") (dVar 1)) (dUn (isiD "list") (dVar 0))))) (retF (dC (.bl false))) .nx) (seqF (ifF (dT (dOp neD (dCall (g1 lenD) (dCons (dVar 0) dNil)) (dCall (g1 lenD) (dCons (dVar 1) dNil)))) (retF (dC (.bl false))) .nx) (seqF (forF (dIts rng1 (dCons (dCall (g1 lenD) (dCons (dVar 1) dNil)) dNil)) (tgN 2) (Lp_l_same_1 Fself)) (retF (dC (.bl true)))))))))
def F_l_same : Nat → List D → Res D
  | 0 => fun _ => .bad
  | n + 1 => runF 3 false (Fb_l_same (F_l_same n))
def Lp_l_names_1 : Rho → SR := (seqF (setF 6 (dStr joinD (dC (.str (Sg []))) (dLc (dIt itemsL (dSl slD (dVar 3) (dPart (dOp addD (dOp mulX (dC (.int 9)) (dVar 5)) (dC (.int 3)))) (dPart (dOp addD (dOp mulX (dC (.int 9)) (dVar 5)) (dC (.int 11)))))) (tgN 7) dYes (dOp ixD (dVar 2) (dVar 7)) [7]))) (appF 4 (dSl slD (dVar 6) dNoP (dPart (dOp addD (dOp ixD (dVar 3) (dOp addD (dOp mulX (dC (.int 9)) (dVar 5)) (dC (.int 2)))) (dC (.int 1)))))))
def Lp_l_names_2 : Rho → SR := (seqF (ifF (dT (dOp eqD (dOp ixD (dVar 3) (dC (.int 0))) (dC (.int 1)))) (seqF (setF 10 (dOp ixD (dVar 2) (dOp modD (dCall (g1 intD) (dCons (dOp addD (dOp ixD (dVar 3) (dC (.int 3))) (dOp mulX (dC (.int 5)) (dVar 5))) dNil)) (dC (.int 26))))) (stoF 4 (dVar 5) (dOp addD (dOp addD (dSl slD (dVar 8) dNoP (dPart (dVar 9))) (dVar 10)) (dSl slD (dVar 8) (dPart (dOp addD (dVar 9) (dC (.int 1)))) dNoP)))) .nx) (ifF (dT (dOp eqD (dOp ixD (dVar 3) (dC (.int 0))) (dC (.int 2)))) (stoF 4 (dVar 5) (dSl slD (dOp mulX (dVar 8) (dC (.int 8))) dNoP (dPart (dOp addD (dC (.int 1)) (dOp modD (dCall (g1 intD) (dCons (dVar 5) dNil)) (dC (.int 8))))))) .nx))
def Fb_l_names : Rho → SR := (seqF (setF 2 (dC (.str (Sg [97, 98, 99, 100, 101, 102, 103, 104, 105, 106, 107, 108, 109, 110, 111, 112, 113, 114, 115, 116, 117, 118, 119, 120, 121, 122])))) (seqF (setF 3 (dCall F_l_row (dCons (dVar 0) (dCons (dOp addD (dLst (dCons (dC (.int 3)) (dCons (dC (.int 8)) dNil))) (dOp mulX (dLst (dCons (dC (.int 8)) (dCons (dC (.int 26)) (dCons (dC (.int 26)) (dCons (dC (.int 26)) (dCons (dC (.int 26)) (dCons (dC (.int 26)) (dCons (dC (.int 26)) (dCons (dC (.int 26)) (dCons (dC (.int 26)) dNil)))))))))) (dVar 1))) dNil)))) (seqF (setF 4 (dLst dNil)) (seqF (forF (dIts rng1 (dCons (dVar 1) dNil)) (tgN 5) Lp_l_names_1) (seqF (setF 8 (dOp ixD (dVar 4) (dC (.int 0)))) (seqF (setF 9 (dOp modD (dCall (g1 intD) (dCons (dOp ixD (dVar 3) (dC (.int 1))) dNil)) (dCall (g1 lenD) (dCons (dVar 8) dNil)))) (seqF (forF (dIts rng1 (dCons (dVar 1) dNil)) (tgN 5) Lp_l_names_2) (retF (dVar 4)))))))))
def F_l_names : List D → Res D := runF 11 false Fb_l_names
def Lp_l_texts_1 : Rho → SR := (seqF (setF 6 (dStr joinD (dC (.str (Sg []))) (dLc (dIt itemsL (dSl slD (dVar 3) (dPart (dOp addD (dOp mulX (dC (.int 13)) (dVar 5)) (dC (.int 2)))) (dPart (dOp addD (dOp mulX (dC (.int 13)) (dVar 5)) (dC (.int 14)))))) (tgN 7) dYes (dOp ixD (dVar 2) (dVar 7)) [7]))) (appF 4 (dSl slD (dVar 6) dNoP (dPart (dOp addD (dOp ixD (dVar 3) (dOp addD (dOp mulX (dC (.int 13)) (dVar 5)) (dC (.int 1)))) (dC (.int 1)))))))
def Fb_l_texts : Rho → SR := (seqF (setF 2 (dC (.str (Sg [32, 33, 34, 35, 36, 38, 39, 40, 41, 42, 43, 44, 45, 46, 47, 48, 49, 50, 51, 52, 53, 54, 55, 56, 57, 58, 59, 60, 61, 62, 63, 64, 65, 66, 67, 68, 69, 70, 71, 72, 73, 74, 75, 76, 77, 78, 79, 80, 81, 82, 83, 84, 85, 86, 87, 88, 89, 90, 94, 95, 96])))) (seqF (setF 2 (dOp addD (dOp addD (dVar 2) (dC (.str (Sg [97, 98, 99, 100, 101, 102, 103, 104, 105, 106, 107, 108, 109, 110, 111, 112, 113, 114, 115, 116, 117, 118, 119, 120, 121, 122, 123, 124, 125, 126])))) (dC (.str (Sg [32, 32, 32, 32, 32, 32, 32, 32, 46, 46, 46, 46, 45, 45, 97, 98]))))) (seqF (setF 3 (dCall F_l_row (dCons (dVar 0) (dCons (dOp addD (dLst (dCons (dC (.int 40)) dNil)) (dOp mulX (dOp addD (dLst (dCons (dC (.int 12)) dNil)) (dOp mulX (dLst (dCons (dCall (g1 lenD) (dCons (dVar 2) dNil)) dNil)) (dC (.int 12)))) (dVar 1))) dNil)))) (seqF (setF 4 (dLst dNil)) (seqF (forF (dIts rng1 (dCons (dVar 1) dNil)) (tgN 5) Lp_l_texts_1) (seqF (ifF (dT (dOp ltD (dOp ixD (dVar 3) (dC (.int 0))) (dC (.int 20)))) (stoF 4 (dUn negD (dC (.int 1))) (dSl slD (dOp mulX (dOp ixD (dVar 4) (dUn negD (dC (.int 1)))) (dC (.int 160))) dNoP (dPart (dOp addD (dOp mulX (dC (.int 8)) (dOp ixD (dVar 3) (dC (.int 0)))) (dC (.int 8)))))) .nx) (retF (dVar 4))))))))
def F_l_texts : List D → Res D := runF 8 false Fb_l_texts
def Fb_l_close : Rho → SR := (seqF (nonF 2) (seqF (nonF 1) (seqF (popW 0 1 (wRoot 0)) (seqF (aliF 2 (wAt 0 (wAt 0 (wRoot 0) (dUn negD (dC (.int 1)))) (dC (.int 2)))) (appW 0 (wVar 2) (dTup (dCons (wIx 0 (wVar 1) (dC (.int 0))) (dCons (wIx 0 (wVar 1) (dC (.int 1))) (dCons (dCall (g1 tupleD) (dCons (wRow 0 (wAt 0 (wVar 1) (dC (.int 2)))) dNil)) dNil)))))))))
def F_l_close : Nat → List (List D) → Res (List (List D)) := runS 3 Fb_l_close
def Lp_l_tree_1 : Rho → SR := (seqF (asgF (tgTL 3 (tgCons (tgN 11) (tgCons (tgN 12) (tgCons (tgN 13) tgNil)))) (dSl slD (dVar 6) (dPart (dOp addD (dOp mulX (dC (.int 3)) (dVar 10)) (dC (.int 3)))) (dPart (dOp addD (dOp mulX (dC (.int 3)) (dVar 10)) (dC (.int 6)))))) (seqF (setF 14 (dOp ixD (dVar 3) (dOp modD (dCall (g1 intD) (dCons (dVar 12) dNil)) (dCall (g1 lenD) (dCons (dVar 3) dNil))))) (seqF (setF 15 (dOp ixD (dVar 4) (dOp modD (dCall (g1 intD) (dCons (dVar 13) dNil)) (dCall (g1 lenD) (dCons (dVar 4) dNil))))) (seqF (ifF (dAnd (dT (dOp eqD (dOp ixD (dVar 6) (dC (.int 1))) (dC (.int 3)))) (dT (dOp ltD (dVar 10) (dOp subD (dVar 2) (dC (.int 1)))))) (setF 11 (dC (.int 7))) .nx) (seqF (ifF (dT (dOp eqD (dOp ixD (dVar 6) (dC (.int 1))) (dC (.int 4)))) (setF 11 (dOp addD (dC (.int 2)) (dOp modD (dCall (g1 intD) (dCons (dVar 11) dNil)) (dC (.int 4))))) .nx) (seqF (ifF (dT (dOp eqD (dOp ixD (dVar 6) (dC (.int 1))) (dC (.int 5)))) (setF 11 (dOp addD (dC (.int 4)) (dOp modD (dCall (g1 intD) (dCons (dVar 11) dNil)) (dC (.int 4))))) .nx) (seqF (aliF 16 (wAt 8 (wAt 8 (wRoot 8) (dUn negD (dC (.int 1)))) (dC (.int 2)))) (ifF (dAnd (dT (dOp ltD (dVar 11) (dC (.int 2)))) (dT (dOp gtD (wLen 8 (wRoot 8)) (dC (.int 1))))) (clsF 8 F_l_close) (ifF (dT (dOp ltD (dVar 11) (dC (.int 4)))) (ifF (dOr (dT (dOp eqD (dCall (g1 lenD) (dCons (wRow 8 (wVar 16)) dNil)) (dC (.int 0)))) (dNot (dT (dUn (isiD "str") (dOp ixD (wRow 8 (wVar 16)) (dUn negD (dC (.int 1)))))))) (seqF (setF 17 (dOp modD (dCall (g1 intD) (dCons (dVar 12) dNil)) (dCall (g1 lenD) (dCons (dVar 7) dNil)))) (seqF (appW 8 (wVar 16) (dOp ixD (dVar 7) (dVar 17))) (ifF (dT (dOp eqD (dVar 17) (dOp subD (dCall (g1 lenD) (dCons (dVar 7) dNil)) (dC (.int 1))))) (stoF 7 (dVar 17) (dOp ixD (dVar 7) (dC (.int 0)))) .nx))) .nx) (ifF (dOr (dT (dOp ltD (dVar 11) (dC (.int 6)))) (dT (dOp geD (wLen 8 (wRoot 8)) (dVar 2)))) (appW 8 (wVar 16) (dTup (dCons (dVar 14) (dCons (dVar 15) (dCons (dTup dNil) dNil))))) (appWN 8 (wRoot 8) (lit3 (dVar 14) (dVar 15)))))))))))))
def Lp_l_tree_2 : Rho → SR := (clsF 8 F_l_close)
def Fb_l_tree : Rho → SR := (seqF (setF 6 (dCall F_l_row (dCons (dVar 0) (dCons (dOp addD (dLst (dCons (dOp addD (dVar 1) (dC (.int 1))) (dCons (dC (.int 6)) (dCons (dC (.int 12)) dNil)))) (dOp mulX (dLst (dCons (dC (.int 8)) (dCons (dC (.int 30)) (dCons (dC (.int 12)) dNil)))) (dVar 1))) dNil)))) (seqF (setF 7 (dCall (g1 listD) (dCons (dVar 5) dNil))) (seqF (setF 8 (lit4 (dOp ixD (dVar 3) (dC (.int 0))) (dOp ixD (dVar 4) (dOp modD (dCall (g1 intD) (dCons (dOp ixD (dVar 6) (dC (.int 2))) dNil)) (dCall (g1 lenD) (dCons (dVar 4) dNil)))))) (seqF (nonF 16) (seqF (setF 9 (dOp ixD (dVar 6) (dC (.int 0)))) (seqF (ifF (dT (dOp eqD (dOp ixD (dVar 6) (dC (.int 1))) (dC (.int 5)))) (setF 9 (dVar 1)) .nx) (seqF (forF (dIts rng1 (dCons (dVar 9) dNil)) (tgN 10) Lp_l_tree_1) (seqF (forF (dIts rng1 (dCons (dOp subD (wLen 8 (wRoot 8)) (dC (.int 1))) dNil)) (tgN 10) Lp_l_tree_2) (retF (dTup (dCons (wIx 8 (wAt 8 (wRoot 8) (dC (.int 0))) (dC (.int 0))) (dCons (wIx 8 (wAt 8 (wRoot 8) (dC (.int 0))) (dC (.int 1))) (dCons (dCall (g1 tupleD) (dCons (wRow 8 (wAt 8 (wAt 8 (wRoot 8) (dC (.int 0))) (dC (.int 2)))) dNil)) dNil)))))))))))))
def F_l_tree : List D → Res D := runF 18 false Fb_l_tree
def Lp_l_nodes_1 : Rho → SR := (appF 2 (dTup (dCons (dOp addD (dVar 3) (dTup (dCons (dVar 5) dNil))) (dCons (dOp ixD (dOp ixD (dVar 4) (dC (.int 2))) (dVar 5)) dNil))))
def Lp_l_nodes_2 : Rho → SR := (seqF (popF 2 (tgT 2 (tgCons (tgN 3) (tgCons (tgN 4) tgNil)))) (seqF (appF 1 (dTup (dCons (dVar 3) (dCons (dVar 4) dNil)))) (ifF (dNot (dT (dUn (isiD "str") (dVar 4)))) (forF (dIts rng3 (dCons (dOp subD (dCall (g1 lenD) (dCons (dOp ixD (dVar 4) (dC (.int 2))) dNil)) (dC (.int 1))) (dCons (dUn negD (dC (.int 1))) (dCons (dUn negD (dC (.int 1))) dNil)))) (tgN 5) Lp_l_nodes_1) .nx)))
def Fb_l_nodes : Rho → SR := (seqF (setF 1 (dLst dNil)) (seqF (setF 2 (dLst (dCons (dTup (dCons (dTup dNil) (dCons (dVar 0) dNil))) dNil))) (seqF (whileN (dT (dOp gtD (dCall (g1 lenD) (dCons (dVar 2) dNil)) (dC (.int 0)))) Lp_l_nodes_2 100000) (retF (dVar 1)))))
def F_l_nodes : List D → Res D := runF 6 false Fb_l_nodes
def Fb_l_asked : Rho → SR := (seqF (tryF isM_LaidError 2 (retF (dTup (dCons (dC (.str (Sg [116, 111, 108, 100]))) (dCons (dCall F_elder_of (dCons (dVar 0) (dCons (dVar 1) dNil))) dNil)))) (ifF (dAnd (dT (dIsX isM_NoPlace 2)) (dAnd (dT (dIsX isM_ValueError 2)) (dNot (dT (dIsX isM_Strange 2))))) (retF (dTup (dCons (dC (.str (Sg [114, 101, 102, 117, 115, 101, 100]))) (dCons (dXf 2 "place") dNil)))) .nx)) (retF (dTup (dCons (dC (.str (Sg [119, 114, 111, 110, 103]))) (dCons (dC (.int 0)) dNil)))))
def F_l_asked : List D → Res D := runF 3 false Fb_l_asked
def Lp_l_elders_1 : Rho → SR := (seqF (setF 6 (dOp addD (dVar 2) (dTup (dCons (dVar 5) dNil)))) (seqF (setF 7 (dTup (dCons (dC (.str (Sg [116, 111, 108, 100]))) (dCons (dVar 4) dNil)))) (seqF (setF 8 (dOp addD (dVar 6) (dTup (dCons (dVar 1) dNil)))) (seqF (ifF (dT (dUn (isiD "str") (dOp ixD (dOp ixD (dVar 3) (dC (.int 2))) (dVar 5)))) (seqF (setF 7 (dTup (dCons (dC (.str (Sg [114, 101, 102, 117, 115, 101, 100]))) (dCons (dVar 6) dNil)))) (ifF (dAnd (dT (dOp ltD (dCall (g1 lenD) (dCons (dVar 6) dNil)) (dC (.int 12)))) (dNot (dT (dCall (F_l_same 4) (dCons (dCall F_l_asked (dCons (dVar 0) (dCons (dVar 8) dNil))) (dCons (dTup (dCons (dC (.str (Sg [114, 101, 102, 117, 115, 101, 100]))) (dCons (dVar 8) dNil))) dNil)))))) (retF (dC (.bl false))) .nx)) (setF 4 (dVar 6))) (ifF (dNot (dT (dCall (F_l_same 4) (dCons (dCall F_l_asked (dCons (dVar 0) (dCons (dVar 6) dNil))) (dCons (dVar 7) dNil))))) (retF (dC (.bl false))) .nx)))))
def Lp_l_elders_2 : Rho → SR := (seqF (ifF (dT (dUn (isiD "str") (dVar 3))) .ct .nx) (seqF (setF 4 (dC .non)) (seqF (forF (dIts rng1 (dCons (dCall (g1 lenD) (dCons (dOp ixD (dVar 3) (dC (.int 2))) dNil)) dNil)) (tgN 5) Lp_l_elders_1) (seqF (setF 9 (dOp addD (dVar 2) (dTup (dCons (dOp addD (dCall (g1 lenD) (dCons (dOp ixD (dVar 3) (dC (.int 2))) dNil)) (dVar 1)) dNil)))) (ifF (dAnd (dT (dOp ltD (dCall (g1 lenD) (dCons (dVar 2) dNil)) (dC (.int 12)))) (dNot (dT (dCall (F_l_same 4) (dCons (dCall F_l_asked (dCons (dVar 0) (dCons (dVar 9) dNil))) (dCons (dTup (dCons (dC (.str (Sg [114, 101, 102, 117, 115, 101, 100]))) (dCons (dVar 9) dNil))) dNil)))))) (retF (dC (.bl false))) .nx)))))
def Fb_l_elders : Rho → SR := (seqF (ifF (dNot (dT (dCall (F_l_same 4) (dCons (dCall F_l_asked (dCons (dVar 0) (dCons (dTup dNil) dNil))) (dCons (dTup (dCons (dC (.str (Sg [116, 111, 108, 100]))) (dCons (dC .non) dNil))) dNil))))) (retF (dC (.bl false))) .nx) (seqF (forF (dIt itemsL (dCall F_l_nodes (dCons (dVar 0) dNil))) (tgT 2 (tgCons (tgN 2) (tgCons (tgN 3) tgNil))) Lp_l_elders_2) (retF (dC (.bl true)))))
def F_l_elders : List D → Res D := runF 10 false Fb_l_elders
def Lp_law_1 : Rho → SR := (ifF (dNot (dT (dCall F_l_elders (dCons (dVar 7) (dCons (dVar 4) dNil))))) (retF (dC (.bl false))) .nx)
def Fb_law : Rho → SR := (seqF (setF 1 (dCall F_l_names (dCons (dCall F_l_cell (dCons (dVar 0) (dCons (dC (.int 1)) dNil))) (dCons (dC (.int 8)) dNil)))) (seqF (setF 2 (dCall F_l_texts (dCons (dCall F_l_cell (dCons (dVar 0) (dCons (dC (.int 2)) dNil))) (dCons (dC (.int 5)) dNil)))) (seqF (setF 3 (dLst (dCons (dC (.str (Sg []))) (dCons (dOp ixD (dVar 1) (dC (.int 6))) (dCons (dOp ixD (dVar 1) (dC (.int 7))) (dCons (dOp ixD (dVar 1) (dC (.int 0))) dNil)))))) (seqF (setF 4 (dOp modD (dCall (g1 intD) (dCons (dCall F_l_cell (dCons (dVar 0) (dCons (dC (.int 4)) dNil))) dNil)) (dOp powD (dC (.int 10)) (dC (.int 9))))) (seqF (setF 5 (dCall F_l_tree (dCons (dCall F_l_cell (dCons (dVar 0) (dCons (dC (.int 0)) dNil))) (dCons (dC (.int 59)) (dCons (dC (.int 12)) (dCons (dSl slD (dVar 1) dNoP (dPart (dC (.int 6)))) (dCons (dVar 3) (dCons (dVar 2) dNil)))))))) (seqF (setF 6 (dCall F_l_tree (dCons (dCall F_l_cell (dCons (dVar 0) (dCons (dC (.int 3)) dNil))) (dCons (dC (.int 59)) (dCons (dC (.int 12)) (dCons (dSl slD (dVar 1) dNoP (dPart (dC (.int 6)))) (dCons (dVar 3) (dCons (dVar 2) dNil)))))))) (seqF (forF (dIt itemsL (dLst (dCons (dVar 5) (dCons (dVar 6) (dCons (dVar 5) dNil))))) (tgN 7) Lp_law_1) (retF (dC (.bl true))))))))))
def F_law : List D → Res D := runF 8 false Fb_law
end
end Lk
end S_P_data
section S_MM_02a
set_option Elab.async false
set_option linter.all false
set_option maxHeartbeats 2000000
set_option maxRecDepth 100000
namespace Lk
open PySem L2 Dx
local macro_rules
  | `(tactic| array_get_dec) => `(tactic| repeat (first
    | ((with_reducible apply Dx.rs_asSJ); · (first | omega | (simp only [List.length_append, List.length_cons, List.length_nil, List.length_map, List.length_range, List.length_replicate, List.length_reverse, List.length_take, List.length_drop]; omega)))
    | with_reducible refine Dx.rs_c ?_
    | with_reducible refine Dx.rs_op ?_
    | with_reducible refine Dx.rs_str ?_
    | with_reducible refine Dx.rs_asS ?_
    | with_reducible refine Dx.rs_un ?_
    | with_reducible refine Dx.rs_nil ?_
    | with_reducible refine Dx.rs_cons ?_
    | with_reducible refine Dx.rs_call ?_
    | with_reducible refine Dx.rs_T ?_
    | with_reducible refine Dx.rs_asB ?_
    | with_reducible refine Dx.rs_asI ?_
    | with_reducible refine Dx.rs_not ?_
    | with_reducible refine Dx.rs_and ?_
    | with_reducible refine Dx.rs_or ?_
    | with_reducible refine Dx.rs_andV ?_
    | with_reducible refine Dx.rs_orV ?_
    | with_reducible refine Dx.rs_notV ?_
    | with_reducible refine Dx.rs_chain ?_
    | with_reducible refine Dx.rs_noP ?_
    | with_reducible refine Dx.rs_part ?_
    | with_reducible refine Dx.rs_sl ?_
    | with_reducible refine Dx.rs_it ?_
    | with_reducible refine Dx.rs_its ?_
    | with_reducible refine Dx.rs_yes ?_
    | with_reducible refine Dx.rs_meth ?_
    | with_reducible refine Dx.rs_tru ?_
    | with_reducible refine Dx.rs_truB ?_
    | with_reducible refine Dx.rs_truI ?_
    | with_reducible refine Dx.rs_truL ?_
    | with_reducible refine Dx.rs_truT ?_
    | with_reducible refine Dx.rs_truN ?_
    | with_reducible refine Dx.rs_ifx ?_
    | with_reducible refine Dx.rs_add ?_
    | with_reducible refine Dx.rs_sub ?_
    | with_reducible refine Dx.rs_neg ?_
    | with_reducible refine Dx.rs_eqI ?_
    | with_reducible refine Dx.rs_neI ?_
    | with_reducible refine Dx.rs_eqS ?_
    | with_reducible refine Dx.rs_neS ?_
    | with_reducible refine Dx.rs_eqB ?_
    | with_reducible refine Dx.rs_neB ?_
    | with_reducible refine Dx.rs_lt ?_
    | with_reducible refine Dx.rs_le ?_
    | with_reducible refine Dx.rs_gt ?_
    | with_reducible refine Dx.rs_ge ?_
    | with_reducible refine Dx.rs_is ?_
    | with_reducible refine Dx.rs_isn ?_
    | with_reducible refine Dx.rs_inS ?_
    | with_reducible refine Dx.rs_ninS ?_
    | with_reducible refine Dx.rs_lenL ?_
    | with_reducible refine Dx.rs_lenF ?_
    | with_reducible refine Dx.rs_lenT ?_
    | with_reducible refine Dx.rs_int ?_
    | with_reducible refine Dx.rs_intB ?_
    | with_reducible refine Dx.rs_abs ?_
    | with_reducible refine Dx.rs_listL ?_
    | with_reducible refine Dx.rs_listT ?_
    | with_reducible refine Dx.rs_tupL ?_
    | with_reducible refine Dx.rs_tupT ?_
    | with_reducible refine Dx.rs_slL ?_
    | with_reducible refine Dx.rs_slO ?_
    | with_reducible refine Dx.rs_slT ?_
    | with_reducible refine Dx.rs_itsL ?_
    | with_reducible refine Dx.rs_itsT ?_
    | with_reducible refine Dx.rs_itsS ?_
    | with_reducible refine Dx.rs_enL ?_
    | with_reducible refine Dx.rs_enT ?_
    | with_reducible refine Dx.rs_enS ?_
    | with_reducible refine Dx.rs_ints ?_
    | with_reducible refine Dx.rs_sortI ?_
    | with_reducible refine Dx.rs_sum ?_
    | with_reducible refine Dx.rs_g2 ?_
    | with_reducible refine Dx.rs_all ?_
    | with_reducible refine Dx.rs_disp ?_
    | with_reducible refine Dx.rs_pnil ?_
    | with_reducible refine Dx.rs_pcons ?_
    | with_reducible refine Dx.rs_jnil ?_
    | with_reducible refine Dx.rs_jcons ?_
    | with_reducible refine Dx.rs_dJoin ?_
    | with_reducible refine Dx.rs_ord ?_
    | with_reducible refine Dx.rs_leS ?_
    | with_reducible refine Dx.rs_inKI ?_
    | with_reducible refine Dx.rs_inI ?_
    | with_reducible refine Dx.rs_ninI ?_
    | with_reducible refine Dx.rs_inTk ?_
    | with_reducible refine Dx.rs_getET ?_
    | with_reducible refine Dx.rs_dD0 ?_
    | with_reducible refine Dx.rs_listTk ?_
    | with_reducible refine Dx.rs_lenTk ?_
    | with_reducible refine Dx.rs_itTk ?_
    | with_reducible refine Dx.rs_end ?_
    | with_reducible refine Dx.rs_start ?_
    | with_reducible refine Dx.rs_star ?_
    | with_reducible refine Dx.rs_itemsL ?_
    | with_reducible refine Dx.rs_itemsT ?_
    | with_reducible refine Dx.rs_zipL ?_
    | with_reducible refine Dx.rs_zipS ?_
    | with_reducible refine Dx.rs_isi_non_bool ?_
    | with_reducible refine Dx.rs_isi_non_int ?_
    | with_reducible refine Dx.rs_isi_non_str ?_
    | with_reducible refine Dx.rs_isi_non_tuple ?_
    | with_reducible refine Dx.rs_isi_non_list ?_
    | with_reducible refine Dx.rs_isi_bl_bool ?_
    | with_reducible refine Dx.rs_isi_bl_int ?_
    | with_reducible refine Dx.rs_isi_bl_str ?_
    | with_reducible refine Dx.rs_isi_bl_tuple ?_
    | with_reducible refine Dx.rs_isi_bl_list ?_
    | with_reducible refine Dx.rs_isi_int_bool ?_
    | with_reducible refine Dx.rs_isi_int_int ?_
    | with_reducible refine Dx.rs_isi_int_str ?_
    | with_reducible refine Dx.rs_isi_int_tuple ?_
    | with_reducible refine Dx.rs_isi_int_list ?_
    | with_reducible refine Dx.rs_isi_str_bool ?_
    | with_reducible refine Dx.rs_isi_str_int ?_
    | with_reducible refine Dx.rs_isi_str_str ?_
    | with_reducible refine Dx.rs_isi_str_tuple ?_
    | with_reducible refine Dx.rs_isi_str_list ?_
    | with_reducible refine Dx.rs_isi_lst_bool ?_
    | with_reducible refine Dx.rs_isi_lst_int ?_
    | with_reducible refine Dx.rs_isi_lst_str ?_
    | with_reducible refine Dx.rs_isi_lst_tuple ?_
    | with_reducible refine Dx.rs_isi_lst_list ?_
    | with_reducible refine Dx.rs_isi_tup_bool ?_
    | with_reducible refine Dx.rs_isi_tup_int ?_
    | with_reducible refine Dx.rs_isi_tup_str ?_
    | with_reducible refine Dx.rs_isi_tup_tuple ?_
    | with_reducible refine Dx.rs_isi_tup_list ?_
    | with_reducible refine Dx.ss_nx ?_
    | with_reducible refine Dx.ss_bk ?_
    | with_reducible refine Dx.ss_ct ?_
    | with_reducible refine Dx.ss_seq ?_
    | with_reducible refine Dx.ss_set ?_
    | with_reducible refine Dx.ss_ret ?_
    | with_reducible refine Dx.ss_drop ?_
    | with_reducible refine Dx.ss_if ?_
    | with_reducible refine Dx.ss_par ?_
    | with_reducible refine Dx.ss_par3 ?_
    | with_reducible refine Dx.ss_aug ?_
    | ((with_reducible apply Dx.rs_var); · (rfl))
    | ((with_reducible apply Dx.rs_ixL); · (first | rfl | assumption))
    | ((with_reducible apply Dx.rs_ixF); · (first | rfl | assumption))
    | ((with_reducible apply Dx.rs_ixT); · (first | rfl | assumption))
    | ((with_reducible apply Dx.rs_fld); · (rfl))
    | ((with_reducible apply Dx.rs_isObj); · (decide))
    | ((with_reducible apply Dx.rs_mod); · (omega))
    | ((with_reducible apply Dx.rs_fdiv); · (omega))
    | ((with_reducible apply Dx.rs_addS); · ((first | exact Nat.le_of_ble_eq_true rfl | assumption | (refine Nat.le_trans (m := 100000) ?_ Dx.sz5; first | omega | (simp only [List.length_append, List.length_cons, List.length_nil, List.length_map, List.length_range, List.length_replicate, List.length_reverse, List.length_take, List.length_drop]; omega)))))
    | ((with_reducible apply Dx.rs_addT); · ((first | exact Nat.le_of_ble_eq_true rfl | assumption | (refine Nat.le_trans (m := 100000) ?_ Dx.sz5; first | omega | (simp only [List.length_append, List.length_cons, List.length_nil, List.length_map, List.length_range, List.length_replicate, List.length_reverse, List.length_take, List.length_drop]; omega)))))
    | ((with_reducible apply Dx.rs_addLL); · ((first | exact Nat.le_of_ble_eq_true rfl | assumption | (refine Nat.le_trans (m := 100000) ?_ Dx.sz5; first | omega | (simp only [List.length_append, List.length_cons, List.length_nil, List.length_map, List.length_range, List.length_replicate, List.length_reverse, List.length_take, List.length_drop]; omega)))))
    | ((with_reducible apply Dx.rs_addLO); · ((first | exact Nat.le_of_ble_eq_true rfl | assumption | (refine Nat.le_trans (m := 100000) ?_ Dx.sz5; first | omega | (simp only [List.length_append, List.length_cons, List.length_nil, List.length_map, List.length_range, List.length_replicate, List.length_reverse, List.length_take, List.length_drop]; omega)))))
    | ((with_reducible apply Dx.rs_lenS); · ((first | exact Nat.le_of_ble_eq_true rfl | assumption | (refine Nat.le_trans (m := 100000) ?_ Dx.sz5; first | omega | (simp only [List.length_append, List.length_cons, List.length_nil, List.length_map, List.length_range, List.length_replicate, List.length_reverse, List.length_take, List.length_drop]; omega)))))
    | ((with_reducible apply Dx.rs_slS); · ((first | exact Nat.le_of_ble_eq_true rfl | assumption | (refine Nat.le_trans (m := 100000) ?_ Dx.sz5; first | omega | (simp only [List.length_append, List.length_cons, List.length_nil, List.length_map, List.length_range, List.length_replicate, List.length_reverse, List.length_take, List.length_drop]; omega)))))
    | ((with_reducible apply Dx.rs_mul); · ((first | exact Or.inl (Dx.small_of (by omega) (by omega)) | exact Or.inr (Dx.small_of (by omega) (by omega)))))
    | ((with_reducible apply Dx.rs_strI); · (omega))
    | ((with_reducible apply Dx.rs_fmtI); · (omega))
    | ((with_reducible apply Dx.rs_fmtS); · ((first | exact Nat.le_of_ble_eq_true rfl | assumption | (refine Nat.le_trans (m := 100000) ?_ Dx.sz5; first | omega | (simp only [List.length_append, List.length_cons, List.length_nil, List.length_map, List.length_range, List.length_replicate, List.length_reverse, List.length_take, List.length_drop]; omega)))))
    | ((with_reducible apply Dx.rs_split); · (refine And.intro (by decide) ?_; (first | exact Nat.le_of_ble_eq_true rfl | assumption | (refine Nat.le_trans (m := 100000) ?_ Dx.sz5; first | omega | (simp only [List.length_append, List.length_cons, List.length_nil, List.length_map, List.length_range, List.length_replicate, List.length_reverse, List.length_take, List.length_drop]; omega)))))
    | ((with_reducible apply Dx.ss_app); · (rfl))
    | (with_reducible refine Dx.rs_tup ?_)
    | (with_reducible refine Dx.rs_lst ?_)
    | ((with_reducible refine And.intro (a := List.length _ ≤ PySem.sizeLine) ?_ ?_); · ((first | exact Nat.le_of_ble_eq_true rfl | assumption | (refine Nat.le_trans (m := 100000) ?_ Dx.sz5; first | omega | (simp only [List.length_append, List.length_cons, List.length_nil, List.length_map, List.length_range, List.length_replicate, List.length_reverse, List.length_take, List.length_drop]; omega)))))
    | ((with_reducible refine And.intro (a := List.length _ < PySem.sizeLine) ?_ ?_); · (first | exact Nat.le_of_ble_eq_true rfl | (refine Nat.lt_of_lt_of_le (m := 100000) ?_ Dx.sz5; first | omega | (simp only [List.length_append, List.length_cons, List.length_nil, List.length_map, List.length_range, List.length_replicate, List.length_reverse, List.length_take, List.length_drop]; omega))))))
local macro_rules
  | `(tactic| array_mem_dec) => `(tactic| repeat (first
    | with_reducible refine Dx.ss_ifo ?_
    | with_reducible refine Dx.ss_ifa ?_
    | with_reducible refine Dx.rs_andc ?_
    | with_reducible refine Dx.rs_orc ?_
    | with_reducible refine Dx.rs_andVc ?_
    | with_reducible refine Dx.rs_orVc ?_
    | ((with_reducible apply Dx.rs_asSJ); · (first | omega | (simp only [List.length_append, List.length_cons, List.length_nil, List.length_map, List.length_range, List.length_replicate, List.length_reverse, List.length_take, List.length_drop]; omega)))
    | with_reducible refine Dx.rs_c ?_
    | with_reducible refine Dx.rs_op ?_
    | with_reducible refine Dx.rs_str ?_
    | with_reducible refine Dx.rs_asS ?_
    | with_reducible refine Dx.rs_un ?_
    | with_reducible refine Dx.rs_nil ?_
    | with_reducible refine Dx.rs_cons ?_
    | with_reducible refine Dx.rs_call ?_
    | with_reducible refine Dx.rs_T ?_
    | with_reducible refine Dx.rs_asB ?_
    | with_reducible refine Dx.rs_asI ?_
    | with_reducible refine Dx.rs_not ?_
    | with_reducible refine Dx.rs_notV ?_
    | with_reducible refine Dx.rs_chain ?_
    | with_reducible refine Dx.rs_noP ?_
    | with_reducible refine Dx.rs_part ?_
    | with_reducible refine Dx.rs_sl ?_
    | with_reducible refine Dx.rs_it ?_
    | with_reducible refine Dx.rs_its ?_
    | with_reducible refine Dx.rs_yes ?_
    | with_reducible refine Dx.rs_meth ?_
    | with_reducible refine Dx.rs_tru ?_
    | with_reducible refine Dx.rs_truB ?_
    | with_reducible refine Dx.rs_truI ?_
    | with_reducible refine Dx.rs_truL ?_
    | with_reducible refine Dx.rs_truT ?_
    | with_reducible refine Dx.rs_truN ?_
    | with_reducible refine Dx.rs_add ?_
    | with_reducible refine Dx.rs_sub ?_
    | with_reducible refine Dx.rs_neg ?_
    | with_reducible refine Dx.rs_eqI ?_
    | with_reducible refine Dx.rs_neI ?_
    | with_reducible refine Dx.rs_eqS ?_
    | with_reducible refine Dx.rs_neS ?_
    | with_reducible refine Dx.rs_eqB ?_
    | with_reducible refine Dx.rs_neB ?_
    | with_reducible refine Dx.rs_lt ?_
    | with_reducible refine Dx.rs_le ?_
    | with_reducible refine Dx.rs_gt ?_
    | with_reducible refine Dx.rs_ge ?_
    | with_reducible refine Dx.rs_is ?_
    | with_reducible refine Dx.rs_isn ?_
    | with_reducible refine Dx.rs_inS ?_
    | with_reducible refine Dx.rs_ninS ?_
    | with_reducible refine Dx.rs_lenL ?_
    | with_reducible refine Dx.rs_lenF ?_
    | with_reducible refine Dx.rs_lenT ?_
    | with_reducible refine Dx.rs_int ?_
    | with_reducible refine Dx.rs_intB ?_
    | with_reducible refine Dx.rs_abs ?_
    | with_reducible refine Dx.rs_listL ?_
    | with_reducible refine Dx.rs_listT ?_
    | with_reducible refine Dx.rs_tupL ?_
    | with_reducible refine Dx.rs_tupT ?_
    | with_reducible refine Dx.rs_slL ?_
    | with_reducible refine Dx.rs_slO ?_
    | with_reducible refine Dx.rs_slT ?_
    | with_reducible refine Dx.rs_itsL ?_
    | with_reducible refine Dx.rs_itsT ?_
    | with_reducible refine Dx.rs_itsS ?_
    | with_reducible refine Dx.rs_enL ?_
    | with_reducible refine Dx.rs_enT ?_
    | with_reducible refine Dx.rs_enS ?_
    | with_reducible refine Dx.rs_ints ?_
    | with_reducible refine Dx.rs_sortI ?_
    | with_reducible refine Dx.rs_sum ?_
    | with_reducible refine Dx.rs_g2 ?_
    | with_reducible refine Dx.rs_all ?_
    | with_reducible refine Dx.rs_disp ?_
    | with_reducible refine Dx.rs_pnil ?_
    | with_reducible refine Dx.rs_pcons ?_
    | with_reducible refine Dx.rs_jnil ?_
    | with_reducible refine Dx.rs_jcons ?_
    | with_reducible refine Dx.rs_dJoin ?_
    | with_reducible refine Dx.rs_ord ?_
    | with_reducible refine Dx.rs_leS ?_
    | with_reducible refine Dx.rs_inKI ?_
    | with_reducible refine Dx.rs_inI ?_
    | with_reducible refine Dx.rs_ninI ?_
    | with_reducible refine Dx.rs_inTk ?_
    | with_reducible refine Dx.rs_getET ?_
    | with_reducible refine Dx.rs_dD0 ?_
    | with_reducible refine Dx.rs_listTk ?_
    | with_reducible refine Dx.rs_lenTk ?_
    | with_reducible refine Dx.rs_itTk ?_
    | with_reducible refine Dx.rs_end ?_
    | with_reducible refine Dx.rs_start ?_
    | with_reducible refine Dx.rs_star ?_
    | with_reducible refine Dx.rs_itemsL ?_
    | with_reducible refine Dx.rs_itemsT ?_
    | with_reducible refine Dx.rs_zipL ?_
    | with_reducible refine Dx.rs_zipS ?_
    | with_reducible refine Dx.rs_isi_non_bool ?_
    | with_reducible refine Dx.rs_isi_non_int ?_
    | with_reducible refine Dx.rs_isi_non_str ?_
    | with_reducible refine Dx.rs_isi_non_tuple ?_
    | with_reducible refine Dx.rs_isi_non_list ?_
    | with_reducible refine Dx.rs_isi_bl_bool ?_
    | with_reducible refine Dx.rs_isi_bl_int ?_
    | with_reducible refine Dx.rs_isi_bl_str ?_
    | with_reducible refine Dx.rs_isi_bl_tuple ?_
    | with_reducible refine Dx.rs_isi_bl_list ?_
    | with_reducible refine Dx.rs_isi_int_bool ?_
    | with_reducible refine Dx.rs_isi_int_int ?_
    | with_reducible refine Dx.rs_isi_int_str ?_
    | with_reducible refine Dx.rs_isi_int_tuple ?_
    | with_reducible refine Dx.rs_isi_int_list ?_
    | with_reducible refine Dx.rs_isi_str_bool ?_
    | with_reducible refine Dx.rs_isi_str_int ?_
    | with_reducible refine Dx.rs_isi_str_str ?_
    | with_reducible refine Dx.rs_isi_str_tuple ?_
    | with_reducible refine Dx.rs_isi_str_list ?_
    | with_reducible refine Dx.rs_isi_lst_bool ?_
    | with_reducible refine Dx.rs_isi_lst_int ?_
    | with_reducible refine Dx.rs_isi_lst_str ?_
    | with_reducible refine Dx.rs_isi_lst_tuple ?_
    | with_reducible refine Dx.rs_isi_lst_list ?_
    | with_reducible refine Dx.rs_isi_tup_bool ?_
    | with_reducible refine Dx.rs_isi_tup_int ?_
    | with_reducible refine Dx.rs_isi_tup_str ?_
    | with_reducible refine Dx.rs_isi_tup_tuple ?_
    | with_reducible refine Dx.rs_isi_tup_list ?_
    | with_reducible refine Dx.ss_nx ?_
    | with_reducible refine Dx.ss_bk ?_
    | with_reducible refine Dx.ss_ct ?_
    | with_reducible refine Dx.ss_seq ?_
    | with_reducible refine Dx.ss_set ?_
    | with_reducible refine Dx.ss_ret ?_
    | with_reducible refine Dx.ss_drop ?_
    | with_reducible refine Dx.ss_if ?_
    | with_reducible refine Dx.ss_par ?_
    | with_reducible refine Dx.ss_par3 ?_
    | with_reducible refine Dx.ss_aug ?_
    | ((with_reducible apply Dx.rs_var); · (rfl))
    | ((with_reducible apply Dx.rs_ixL); · (first | rfl | assumption))
    | ((with_reducible apply Dx.rs_ixF); · (first | rfl | assumption))
    | ((with_reducible apply Dx.rs_ixT); · (first | rfl | assumption))
    | ((with_reducible apply Dx.rs_fld); · (rfl))
    | ((with_reducible apply Dx.rs_isObj); · (decide))
    | ((with_reducible apply Dx.rs_mod); · (omega))
    | ((with_reducible apply Dx.rs_fdiv); · (omega))
    | ((with_reducible apply Dx.rs_addS); · ((first | exact Nat.le_of_ble_eq_true rfl | assumption | (refine Nat.le_trans (m := 100000) ?_ Dx.sz5; first | omega | (simp only [List.length_append, List.length_cons, List.length_nil, List.length_map, List.length_range, List.length_replicate, List.length_reverse, List.length_take, List.length_drop]; omega)))))
    | ((with_reducible apply Dx.rs_addT); · ((first | exact Nat.le_of_ble_eq_true rfl | assumption | (refine Nat.le_trans (m := 100000) ?_ Dx.sz5; first | omega | (simp only [List.length_append, List.length_cons, List.length_nil, List.length_map, List.length_range, List.length_replicate, List.length_reverse, List.length_take, List.length_drop]; omega)))))
    | ((with_reducible apply Dx.rs_addLL); · ((first | exact Nat.le_of_ble_eq_true rfl | assumption | (refine Nat.le_trans (m := 100000) ?_ Dx.sz5; first | omega | (simp only [List.length_append, List.length_cons, List.length_nil, List.length_map, List.length_range, List.length_replicate, List.length_reverse, List.length_take, List.length_drop]; omega)))))
    | ((with_reducible apply Dx.rs_addLO); · ((first | exact Nat.le_of_ble_eq_true rfl | assumption | (refine Nat.le_trans (m := 100000) ?_ Dx.sz5; first | omega | (simp only [List.length_append, List.length_cons, List.length_nil, List.length_map, List.length_range, List.length_replicate, List.length_reverse, List.length_take, List.length_drop]; omega)))))
    | ((with_reducible apply Dx.rs_lenS); · ((first | exact Nat.le_of_ble_eq_true rfl | assumption | (refine Nat.le_trans (m := 100000) ?_ Dx.sz5; first | omega | (simp only [List.length_append, List.length_cons, List.length_nil, List.length_map, List.length_range, List.length_replicate, List.length_reverse, List.length_take, List.length_drop]; omega)))))
    | ((with_reducible apply Dx.rs_slS); · ((first | exact Nat.le_of_ble_eq_true rfl | assumption | (refine Nat.le_trans (m := 100000) ?_ Dx.sz5; first | omega | (simp only [List.length_append, List.length_cons, List.length_nil, List.length_map, List.length_range, List.length_replicate, List.length_reverse, List.length_take, List.length_drop]; omega)))))
    | ((with_reducible apply Dx.rs_mul); · ((first | exact Or.inl (Dx.small_of (by omega) (by omega)) | exact Or.inr (Dx.small_of (by omega) (by omega)))))
    | ((with_reducible apply Dx.rs_strI); · (omega))
    | ((with_reducible apply Dx.rs_fmtI); · (omega))
    | ((with_reducible apply Dx.rs_fmtS); · ((first | exact Nat.le_of_ble_eq_true rfl | assumption | (refine Nat.le_trans (m := 100000) ?_ Dx.sz5; first | omega | (simp only [List.length_append, List.length_cons, List.length_nil, List.length_map, List.length_range, List.length_replicate, List.length_reverse, List.length_take, List.length_drop]; omega)))))
    | ((with_reducible apply Dx.rs_split); · (refine And.intro (by decide) ?_; (first | exact Nat.le_of_ble_eq_true rfl | assumption | (refine Nat.le_trans (m := 100000) ?_ Dx.sz5; first | omega | (simp only [List.length_append, List.length_cons, List.length_nil, List.length_map, List.length_range, List.length_replicate, List.length_reverse, List.length_take, List.length_drop]; omega)))))
    | ((with_reducible apply Dx.ss_app); · (rfl))
    | (with_reducible refine Dx.rs_tup ?_)
    | (with_reducible refine Dx.rs_lst ?_)
    | ((with_reducible refine And.intro (a := List.length _ ≤ PySem.sizeLine) ?_ ?_); · ((first | exact Nat.le_of_ble_eq_true rfl | assumption | (refine Nat.le_trans (m := 100000) ?_ Dx.sz5; first | omega | (simp only [List.length_append, List.length_cons, List.length_nil, List.length_map, List.length_range, List.length_replicate, List.length_reverse, List.length_take, List.length_drop]; omega)))))
    | ((with_reducible refine And.intro (a := List.length _ < PySem.sizeLine) ?_ ?_); · (first | exact Nat.le_of_ble_eq_true rfl | (refine Nat.lt_of_lt_of_le (m := 100000) ?_ Dx.sz5; first | omega | (simp only [List.length_append, List.length_cons, List.length_nil, List.length_map, List.length_range, List.length_replicate, List.length_reverse, List.length_take, List.length_drop]; omega))))
    | ((refine And.intro (fun h => absurd h ?_) (fun _ => ?_)); · (first | exact Bool.false_ne_true | (simp; done) | (simp; omega)))
    | ((refine And.intro (fun _ => ?_) (fun h => absurd h ?_)); rotate_left; · (first | exact (fun h => Bool.false_ne_true h.symm) | (simp; done) | (simp; omega)))))
local macro_rules
  | `(tactic| sizeOf_list_dec) => `(tactic| repeat (first
    | ((with_reducible apply Dx.rs_asSJ); · (first | omega | (simp only [List.length_append, List.length_cons, List.length_nil, List.length_map, List.length_range, List.length_replicate, List.length_reverse, List.length_take, List.length_drop]; omega)))
    | with_reducible refine Dx.rs_c ?_
    | with_reducible refine Dx.rs_op ?_
    | with_reducible refine Dx.rs_str ?_
    | with_reducible refine Dx.rs_asS ?_
    | with_reducible refine Dx.rs_un ?_
    | with_reducible refine Dx.rs_nil ?_
    | with_reducible refine Dx.rs_cons ?_
    | with_reducible refine Dx.rs_call ?_
    | with_reducible refine Dx.rs_T ?_
    | with_reducible refine Dx.rs_asB ?_
    | with_reducible refine Dx.rs_asI ?_
    | with_reducible refine Dx.rs_not ?_
    | with_reducible refine Dx.rs_and ?_
    | with_reducible refine Dx.rs_or ?_
    | with_reducible refine Dx.rs_andV ?_
    | with_reducible refine Dx.rs_orV ?_
    | with_reducible refine Dx.rs_notV ?_
    | with_reducible refine Dx.rs_chain ?_
    | with_reducible refine Dx.rs_noP ?_
    | with_reducible refine Dx.rs_part ?_
    | with_reducible refine Dx.rs_sl ?_
    | with_reducible refine Dx.rs_it ?_
    | with_reducible refine Dx.rs_its ?_
    | with_reducible refine Dx.rs_yes ?_
    | with_reducible refine Dx.rs_meth ?_
    | with_reducible refine Dx.rs_tru ?_
    | with_reducible refine Dx.rs_truB ?_
    | with_reducible refine Dx.rs_truI ?_
    | with_reducible refine Dx.rs_truL ?_
    | with_reducible refine Dx.rs_truT ?_
    | with_reducible refine Dx.rs_truN ?_
    | with_reducible refine Dx.rs_ifx ?_
    | with_reducible refine Dx.rs_add ?_
    | with_reducible refine Dx.rs_sub ?_
    | with_reducible refine Dx.rs_neg ?_
    | with_reducible refine Dx.rs_eqI ?_
    | with_reducible refine Dx.rs_neI ?_
    | with_reducible refine Dx.rs_eqS ?_
    | with_reducible refine Dx.rs_neS ?_
    | with_reducible refine Dx.rs_eqB ?_
    | with_reducible refine Dx.rs_neB ?_
    | with_reducible refine Dx.rs_lt ?_
    | with_reducible refine Dx.rs_le ?_
    | with_reducible refine Dx.rs_gt ?_
    | with_reducible refine Dx.rs_ge ?_
    | with_reducible refine Dx.rs_is ?_
    | with_reducible refine Dx.rs_isn ?_
    | with_reducible refine Dx.rs_inS ?_
    | with_reducible refine Dx.rs_ninS ?_
    | with_reducible refine Dx.rs_lenL ?_
    | with_reducible refine Dx.rs_lenF ?_
    | with_reducible refine Dx.rs_lenT ?_
    | with_reducible refine Dx.rs_int ?_
    | with_reducible refine Dx.rs_intB ?_
    | with_reducible refine Dx.rs_abs ?_
    | with_reducible refine Dx.rs_listL ?_
    | with_reducible refine Dx.rs_listT ?_
    | with_reducible refine Dx.rs_tupL ?_
    | with_reducible refine Dx.rs_tupT ?_
    | with_reducible refine Dx.rs_slL ?_
    | with_reducible refine Dx.rs_slO ?_
    | with_reducible refine Dx.rs_slT ?_
    | with_reducible refine Dx.rs_itsL ?_
    | with_reducible refine Dx.rs_itsT ?_
    | with_reducible refine Dx.rs_itsS ?_
    | with_reducible refine Dx.rs_enL ?_
    | with_reducible refine Dx.rs_enT ?_
    | with_reducible refine Dx.rs_enS ?_
    | with_reducible refine Dx.rs_ints ?_
    | with_reducible refine Dx.rs_sortI ?_
    | with_reducible refine Dx.rs_sum ?_
    | with_reducible refine Dx.rs_g2 ?_
    | with_reducible refine Dx.rs_all ?_
    | with_reducible refine Dx.rs_disp ?_
    | with_reducible refine Dx.rs_pnil ?_
    | with_reducible refine Dx.rs_pcons ?_
    | with_reducible refine Dx.rs_jnil ?_
    | with_reducible refine Dx.rs_jcons ?_
    | with_reducible refine Dx.rs_dJoin ?_
    | with_reducible refine Dx.rs_ord ?_
    | with_reducible refine Dx.rs_leS ?_
    | with_reducible refine Dx.rs_inKI ?_
    | with_reducible refine Dx.rs_inI ?_
    | with_reducible refine Dx.rs_ninI ?_
    | with_reducible refine Dx.rs_inTk ?_
    | with_reducible refine Dx.rs_getET ?_
    | with_reducible refine Dx.rs_dD0 ?_
    | with_reducible refine Dx.rs_listTk ?_
    | with_reducible refine Dx.rs_lenTk ?_
    | with_reducible refine Dx.rs_itTk ?_
    | with_reducible refine Dx.rs_end ?_
    | with_reducible refine Dx.rs_start ?_
    | with_reducible refine Dx.rs_star ?_
    | with_reducible refine Dx.rs_itemsL ?_
    | with_reducible refine Dx.rs_itemsT ?_
    | with_reducible refine Dx.rs_zipL ?_
    | with_reducible refine Dx.rs_zipS ?_
    | with_reducible refine Dx.rs_isi_non_bool ?_
    | with_reducible refine Dx.rs_isi_non_int ?_
    | with_reducible refine Dx.rs_isi_non_str ?_
    | with_reducible refine Dx.rs_isi_non_tuple ?_
    | with_reducible refine Dx.rs_isi_non_list ?_
    | with_reducible refine Dx.rs_isi_bl_bool ?_
    | with_reducible refine Dx.rs_isi_bl_int ?_
    | with_reducible refine Dx.rs_isi_bl_str ?_
    | with_reducible refine Dx.rs_isi_bl_tuple ?_
    | with_reducible refine Dx.rs_isi_bl_list ?_
    | with_reducible refine Dx.rs_isi_int_bool ?_
    | with_reducible refine Dx.rs_isi_int_int ?_
    | with_reducible refine Dx.rs_isi_int_str ?_
    | with_reducible refine Dx.rs_isi_int_tuple ?_
    | with_reducible refine Dx.rs_isi_int_list ?_
    | with_reducible refine Dx.rs_isi_str_bool ?_
    | with_reducible refine Dx.rs_isi_str_int ?_
    | with_reducible refine Dx.rs_isi_str_str ?_
    | with_reducible refine Dx.rs_isi_str_tuple ?_
    | with_reducible refine Dx.rs_isi_str_list ?_
    | with_reducible refine Dx.rs_isi_lst_bool ?_
    | with_reducible refine Dx.rs_isi_lst_int ?_
    | with_reducible refine Dx.rs_isi_lst_str ?_
    | with_reducible refine Dx.rs_isi_lst_tuple ?_
    | with_reducible refine Dx.rs_isi_lst_list ?_
    | with_reducible refine Dx.rs_isi_tup_bool ?_
    | with_reducible refine Dx.rs_isi_tup_int ?_
    | with_reducible refine Dx.rs_isi_tup_str ?_
    | with_reducible refine Dx.rs_isi_tup_tuple ?_
    | with_reducible refine Dx.rs_isi_tup_list ?_
    | with_reducible refine Dx.ss_nx ?_
    | with_reducible refine Dx.ss_bk ?_
    | with_reducible refine Dx.ss_ct ?_
    | with_reducible refine Dx.ss_seq ?_
    | with_reducible refine Dx.ss_set ?_
    | with_reducible refine Dx.ss_ret ?_
    | with_reducible refine Dx.ss_drop ?_
    | with_reducible refine Dx.ss_if ?_
    | with_reducible refine Dx.ss_par ?_
    | with_reducible refine Dx.ss_par3 ?_
    | with_reducible refine Dx.ss_aug ?_
    | ((with_reducible apply Dx.rs_var); · (rfl))
    | ((with_reducible apply Dx.rs_ixL); · (first | rfl | assumption))
    | ((with_reducible apply Dx.rs_ixF); · (first | rfl | assumption))
    | ((with_reducible apply Dx.rs_ixT); · (first | rfl | assumption))
    | ((with_reducible apply Dx.rs_fld); · (rfl))
    | ((with_reducible apply Dx.rs_isObj); · (decide))
    | ((with_reducible apply Dx.rs_mod); · (omega))
    | ((with_reducible apply Dx.rs_fdiv); · (omega))
    | ((with_reducible apply Dx.rs_addS); · ((first | exact Nat.le_of_ble_eq_true rfl | assumption | (refine Nat.le_trans (m := 100000) ?_ Dx.sz5; first | omega | (simp only [List.length_append, List.length_cons, List.length_nil, List.length_map, List.length_range, List.length_replicate, List.length_reverse, List.length_take, List.length_drop]; omega)))))
    | ((with_reducible apply Dx.rs_addT); · ((first | exact Nat.le_of_ble_eq_true rfl | assumption | (refine Nat.le_trans (m := 100000) ?_ Dx.sz5; first | omega | (simp only [List.length_append, List.length_cons, List.length_nil, List.length_map, List.length_range, List.length_replicate, List.length_reverse, List.length_take, List.length_drop]; omega)))))
    | ((with_reducible apply Dx.rs_addLL); · ((first | exact Nat.le_of_ble_eq_true rfl | assumption | (refine Nat.le_trans (m := 100000) ?_ Dx.sz5; first | omega | (simp only [List.length_append, List.length_cons, List.length_nil, List.length_map, List.length_range, List.length_replicate, List.length_reverse, List.length_take, List.length_drop]; omega)))))
    | ((with_reducible apply Dx.rs_addLO); · ((first | exact Nat.le_of_ble_eq_true rfl | assumption | (refine Nat.le_trans (m := 100000) ?_ Dx.sz5; first | omega | (simp only [List.length_append, List.length_cons, List.length_nil, List.length_map, List.length_range, List.length_replicate, List.length_reverse, List.length_take, List.length_drop]; omega)))))
    | ((with_reducible apply Dx.rs_lenS); · ((first | exact Nat.le_of_ble_eq_true rfl | assumption | (refine Nat.le_trans (m := 100000) ?_ Dx.sz5; first | omega | (simp only [List.length_append, List.length_cons, List.length_nil, List.length_map, List.length_range, List.length_replicate, List.length_reverse, List.length_take, List.length_drop]; omega)))))
    | ((with_reducible apply Dx.rs_slS); · ((first | exact Nat.le_of_ble_eq_true rfl | assumption | (refine Nat.le_trans (m := 100000) ?_ Dx.sz5; first | omega | (simp only [List.length_append, List.length_cons, List.length_nil, List.length_map, List.length_range, List.length_replicate, List.length_reverse, List.length_take, List.length_drop]; omega)))))
    | ((with_reducible apply Dx.rs_mul); · ((first | exact Or.inl (Dx.small_of (by omega) (by omega)) | exact Or.inr (Dx.small_of (by omega) (by omega)))))
    | ((with_reducible apply Dx.rs_strI); · (omega))
    | ((with_reducible apply Dx.rs_fmtI); · (omega))
    | ((with_reducible apply Dx.rs_fmtS); · ((first | exact Nat.le_of_ble_eq_true rfl | assumption | (refine Nat.le_trans (m := 100000) ?_ Dx.sz5; first | omega | (simp only [List.length_append, List.length_cons, List.length_nil, List.length_map, List.length_range, List.length_replicate, List.length_reverse, List.length_take, List.length_drop]; omega)))))
    | ((with_reducible apply Dx.rs_split); · (refine And.intro (by decide) ?_; (first | exact Nat.le_of_ble_eq_true rfl | assumption | (refine Nat.le_trans (m := 100000) ?_ Dx.sz5; first | omega | (simp only [List.length_append, List.length_cons, List.length_nil, List.length_map, List.length_range, List.length_replicate, List.length_reverse, List.length_take, List.length_drop]; omega)))))
    | ((with_reducible apply Dx.ss_app); · (rfl))
    | (with_reducible refine Dx.rs_tup ?_)
    | (with_reducible refine Dx.rs_lst ?_)
    | ((with_reducible refine And.intro (a := List.length _ ≤ PySem.sizeLine) ?_ ?_); · ((first | exact Nat.le_of_ble_eq_true rfl | assumption | (refine Nat.le_trans (m := 100000) ?_ Dx.sz5; first | omega | (simp only [List.length_append, List.length_cons, List.length_nil, List.length_map, List.length_range, List.length_replicate, List.length_reverse, List.length_take, List.length_drop]; omega)))))
    | ((with_reducible refine And.intro (a := List.length _ < PySem.sizeLine) ?_ ?_); · (first | exact Nat.le_of_ble_eq_true rfl | (refine Nat.lt_of_lt_of_le (m := 100000) ?_ Dx.sz5; first | omega | (simp only [List.length_append, List.length_cons, List.length_nil, List.length_map, List.length_range, List.length_replicate, List.length_reverse, List.length_take, List.length_drop]; omega))))
    | ((refine And.intro (fun h => absurd h ?_) (fun _ => ?_)); · (first | exact Bool.false_ne_true | (simp; done) | (simp; omega)))
    | ((refine And.intro (fun _ => ?_) (fun h => absurd h ?_)); rotate_left; · (first | exact (fun h => Bool.false_ne_true h.symm) | (simp; done) | (simp; omega)))))
section
theorem rs_pow10 {Q : D → Prop} {E : Str → List Str → List D → Prop} (q : Q (.int 1000000000000000000)) : Rs (powD (.int 10) (.int 18)) Q E := by
  unfold powD
  refine rs_guard ?_ q
  decide
theorem cell_sp (ns : List Int) (hl : ns.length ≤ 63) (k : Nat) (hk : k ≤ 1000) : Rs (F_l_cell [.fz (ns.map D.int), .int (k : Int)]) (fun d => ∃ z, d = .int z) nE := by
  refine rs_run ?_
  unfold Fb_l_cell
  array_get_dec
  refine ⟨fun _ => ?_, fun _ => ?_⟩
  · refine ss_ret (rs_op (rs_c (rs_c (rs_pow10 ⟨_, rfl⟩))))
  · array_get_dec
    refine ⟨fun h => ?_, fun h => ?_⟩
    · have h := of_decide_eq_true h
      rw [List.length_map] at h
      have hk : k < ns.length := by omega
      array_get_dec
      refine rs_ixF (d := .int ns[k]) (atI_nat (by rw [List.getElem?_map, List.getElem?_eq_getElem hk]; rfl)) ?_
      array_get_dec
      exact ⟨_, rfl⟩
    · array_get_dec
      refine rs_lc D.int (fun i => .int (i % 1000)) ns (rs_it (rs_var rfl rfl)) (Nat.le_trans (by omega) sz5) (fun i hi => ⟨_, rfl, rfl, ?_⟩) ?_
      · array_get_dec
        rfl
      · array_get_dec
        rw [show (ns.map fun i => D.int (i % 1000)) = (ns.map fun i => i % 1000).map D.int by rw [List.map_map]; rfl]
        refine rs_sum ?_
        array_get_dec
        exact ⟨_, rfl⟩
theorem row_sp (c : Int) (ls : List Int) (hl : ∀ l ∈ ls, 0 < l ∧ l < 4611686018427387904) (hn : ls.length < 10000) : Rs (F_l_row [.int c, iL ls]) (fun d => ∃ vs, d = iL vs ∧ Fit vs ls) nE := by
  refine rs_run ?_
  unfold Fb_l_row
  array_get_dec
  refine rs_pow10 ?_
  array_get_dec
  refine ss_rng ls.length (fun i r => i ≤ ls.length ∧ ∃ vs rest y z, Fit vs (ls.take i) ∧ r = [some (.int c), some (iL ls), some (iL vs), some (.int rest), y, z]) (by array_get_dec; rw [List.length_map]) (by omega) ⟨by omega, [], _, none, none, trivial, rfl⟩ ?_ ?_
  · rintro k r hk ⟨_, vs, rest, y, z, hf, rfl⟩
    have hlen := hf.len
    rw [List.length_take] at hlen
    have hg : ls[k]? = some ls[k] := List.getElem?_eq_getElem hk
    have hl := hl ls[k] (List.getElem_mem hk)
    rw [take_snoc hg]
    generalize ls[k] = l at hg hl
    have ix : ∀ {Q : D → Prop} {E : Str → List Str → List D → Prop}, Q (.int l) → Rs (ixD (iL ls) (.int (k : Int))) Q E := fun q => rs_ixL (atI_nat (by rw [List.getElem?_map, hg]; rfl)) q
    show Ss (Lp_l_row_1 [some (.int c), some (iL ls), some (iL vs), some (.int rest), some (.int (k : Int)), z]) _ _ _ _ _
    unfold Lp_l_row_1
    refine ss_if (rs_or (rs_T (rs_op (rs_var rfl (rs_c (rs_gt (rs_asB ?_)))))))
    refine rs_T (rs_op (rs_var rfl (rs_op (rs_c (rs_c (rs_pow10 (rs_eqI (rs_asB ⟨fun _ => ?_, fun _ => ?_⟩))))))))
    · array_get_dec
      refine ix ?_
      array_get_dec
      refine ix ?_
      array_get_dec
      refine ⟨by omega, vs ++ [rest % l], rest / l, some (.int (k : Int)), z, hf.snoc (Int.emod_nonneg _ (by omega)) (Int.emod_lt_of_pos _ hl.1), by simp [iL]⟩
    · array_get_dec
      refine ix ?_
      array_get_dec
      refine ⟨by omega, vs ++ [_], rest, some (.int (k : Int)), _, hf.snoc (Int.emod_nonneg _ (by omega)) (Int.emod_lt_of_pos _ hl.1), by simp [iL]; exact ⟨rfl, rfl⟩⟩
  · rintro r ⟨_, vs, rest, y, z, hf, rfl⟩
    rw [List.take_length] at hf
    array_get_dec
    exact ⟨vs, rfl, hf⟩
theorem row_of (c : Int) (ls : List Int) {Q : D → Prop} {E : Str → List Str → List D → Prop} (hl : ∀ l ∈ ls, 0 < l ∧ l < 4611686018427387904) (hn : ls.length < 10000) (q : ∀ vs, Fit vs ls → Q (iL vs)) : Rs (F_l_row [.int c, iL ls]) Q E := (row_sp c ls hl hn).imp fun d ⟨vs, e, h⟩ => by subst e; exact q vs h
theorem ix_row {vs : List Int} {ls : List Int} {k : Nat} {l : Int} {i : Int} {Q : D → Prop} {E : Str → List Str → List D → Prop} (h : Fit vs ls) (hk : ls[k]? = some l) (hi : i = (k : Int)) (q : ∀ v, vs[k]? = some v → 0 ≤ v → v < l → Q (.int v)) : Rs (ixD (iL vs) (.int i)) Q E := by
  obtain ⟨v, h1, h2, h3⟩ := h.get hk
  subst hi
  exact rs_ixL (atI_nat (by rw [List.getElem?_map, h1]; rfl)) (q v h1 h2 h3)
theorem same_non (n : Nat) : F_l_same (n + 1) [.non, .non] = .ok (.bl true) := Rs.eq (by
  refine rs_run ?_
  unfold Fb_l_same
  sizeOf_list_dec
  rfl)
theorem same_str (n : Nat) (l : List Nat) : F_l_same (n + 1) [.str (Sg l), .str (Sg l)] = .ok (.bl true) := Rs.eq (by
  refine rs_run ?_
  unfold Fb_l_same
  sizeOf_list_dec
  simp)
theorem same_int (n : Nat) (i : Int) : F_l_same (n + 1) [.int i, .int i] = .ok (.bl true) := Rs.eq (by
  refine rs_run ?_
  unfold Fb_l_same
  sizeOf_list_dec
  simp)
theorem same_tup (n : Nat) (ds : List D) (hl : ds.length ≤ 10000) (h : ∀ d ∈ ds, F_l_same n [d, d] = .ok (.bl true)) : F_l_same (n + 1) [.tup ds, .tup ds] = .ok (.bl true) := Rs.eq (by
  refine rs_run ?_
  unfold Fb_l_same
  sizeOf_list_dec
  refine ss_rng ds.length (fun i r => ∃ x, r = [some (.tup ds), some (.tup ds), x]) (by array_get_dec; rfl) (by omega) ⟨none, rfl⟩ ?_ ?_
  · rintro i r hi ⟨x, rfl⟩
    show Ss (Lp_l_same_1 (F_l_same n) [some (.tup ds), some (.tup ds), some (.int (i : Int))]) _ _ _ _ _
    unfold Lp_l_same_1
    array_get_dec
    refine rs_ixT (atI_nat (List.getElem?_eq_getElem hi)) ?_
    array_get_dec
    refine rs_ixT (atI_nat (List.getElem?_eq_getElem hi)) ?_
    array_get_dec
    refine Rs.of (h _ (List.getElem_mem hi)) ?_
    sizeOf_list_dec
    exact ⟨_, rfl⟩
  · rintro r ⟨x, rfl⟩
    array_get_dec
    rfl)
end
section
structure Cd {α : Type} [DecidableEq α] (P : α → Prop) (f : α → D) (n : Nat) (py : α → PyData) : Prop where
  e : ∀ a, P a → toPy (f a) = some (py a)
  l : ∀ a, P a → PyData.canLay0 (py a) = true ∧ PyData.depth (py a) ≤ n
  q : ∀ a b, P a → P b → PyData.eqv (py a) (py b) = decide (a = b)
theorem beq_dec {α : Type} [DecidableEq α] (a b : α) : (a == b) = decide (a = b) := rfl
theorem cd_int : Cd (fun _ => True) D.int 0 PyData.int := ⟨fun _ _ => by simp [toPy], fun _ _ => by simp [PyData.canLay0, PyData.depth], fun a b _ _ => by simp [PyData.eqv, beq_dec]⟩
section
variable {α β γ δ ε : Type} [DecidableEq α] [DecidableEq β] [DecidableEq γ] [DecidableEq δ] [DecidableEq ε] {P : α → Prop} {R : β → Prop} {T : γ → Prop} {U : δ → Prop} {f : α → D} {g : β → D} {h : γ → D} {k : δ → D} {n : Nat} {py : α → PyData} {pz : β → PyData} {pw : γ → PyData} {px : δ → PyData}
theorem Cd.all (c : Cd P f n py) : ∀ xs : List α, (∀ x ∈ xs, P x) → toPyL (xs.map f) = some (xs.map py) ∧ PyData.canLayAll0 (xs.map py) = true ∧ PyData.depthAll (xs.map py) ≤ n
  | [], _ => ⟨by simp [toPyL], by simp [PyData.canLayAll0], by simp [PyData.depthAll]⟩
  | x :: xs, hx => by
    obtain ⟨h1, h2, h3⟩ := c.all xs fun y hy => hx y (List.mem_cons_of_mem _ hy)
    have hp := hx x List.mem_cons_self
    refine ⟨by rw [List.map_cons, toPyL, h1, c.e x hp]; rfl, ?_, ?_⟩
    · rw [List.map_cons, PyData.canLayAll0, h2, (c.l x hp).1]; rfl
    · rw [List.map_cons, PyData.depthAll]
      exact Nat.max_le.mpr ⟨(c.l x hp).2, h3⟩
theorem Cd.eqa (c : Cd P f n py) : ∀ xs ys : List α, (∀ x ∈ xs, P x) → (∀ x ∈ ys, P x) → PyData.eqvAll (xs.map py) (ys.map py) = decide (xs = ys)
  | [], [], _, _ => by simp [PyData.eqvAll]
  | [], _ :: _, _, _ => by simp [PyData.eqvAll]
  | _ :: _, [], _, _ => by simp [PyData.eqvAll]
  | x :: xs, y :: ys, hx, hy => by
    rw [List.map_cons, List.map_cons, PyData.eqvAll, c.q x y (hx x List.mem_cons_self) (hy y List.mem_cons_self), c.eqa xs ys (fun z hz => hx z (List.mem_cons_of_mem _ hz)) fun z hz => hy z (List.mem_cons_of_mem _ hz)]
    by_cases h1 : x = y <;> by_cases h2 : xs = ys <;> simp [h1, h2]
theorem cd_tup (c : Cd P f n py) : Cd (fun xs : List α => ∀ x ∈ xs, P x) (fun xs => D.tup (xs.map f)) (n + 1) (fun xs => PyData.tuple (xs.map py)) := ⟨fun xs hx => by rw [toPy, (c.all xs hx).1]; rfl,
  fun xs hx => ⟨by rw [PyData.canLay0]; exact (c.all xs hx).2.1, by rw [PyData.depth]; exact Nat.succ_le_succ (c.all xs hx).2.2⟩, fun xs ys hx hy => by rw [PyData.eqv, c.eqa xs ys hx hy]⟩
theorem eq_cd (c : Cd P f n py) (hn : n ≤ 64) {a b : α} (ha : P a) (hb : P b) (hf : eqFlat (f a) (f b) = none) : eqB (f a) (f b) = .ok (decide (a = b)) := by
  have sh : ∀ a, P a → SeqAt.shaped (py a) = true := fun a ha => by
    obtain ⟨h1, h2⟩ := c.l a ha
    unfold SeqAt.shaped
    rw [h1, decide_eq_true (by omega)]
    rfl
  unfold eqB
  rw [hf]
  dsimp only
  unfold eqDeep
  rw [c.e a ha, c.e b hb]
  dsimp only
  rw [if_pos ⟨sh a ha, sh b hb⟩, c.q a b ha hb]
theorem rs_eqC {Q : D → Prop} {E : Str → List Str → List D → Prop} (c : Cd P f n py) (hn : n ≤ 64) {a b : α} (ha : P a) (hb : P b) (hf : eqFlat (f a) (f b) = none) (q : Q (.bl (decide (a = b)))) : Rs (eqD (f a) (f b)) Q E := by
  unfold eqD
  rw [eq_cd c hn ha hb hf]
  exact q
end
end
section
inductive Tr where
  | tx (l : List Nat)
  | el (k m : D) (ks : List Tr)
mutual
def tD : Tr → D
  | .tx l => .str (Sg l)
  | .el k m ks => .tup [k, m, .tup (tDs ks)]
def tDs : List Tr → List D
  | [] => []
  | t :: ts => tD t :: tDs ts
end
theorem tD_tx (l : List Nat) : tD (.tx l) = .str (Sg l) := by rw [tD]
theorem tDs_map : ∀ ks : List Tr, tDs ks = ks.map tD
  | [] => by simp [tDs]
  | t :: ts => by rw [tDs, tDs_map ts]; rfl
theorem tD_el (k m : D) (ks : List Tr) : tD (.el k m ks) = .tup [k, m, .tup (ks.map tD)] := by rw [tD, tDs_map]
mutual
def sz : Tr → Nat
  | .tx _ => 1
  | .el _ _ ks => 1 + szs ks
def szs : List Tr → Nat
  | [] => 0
  | t :: ts => sz t + szs ts
end
theorem szs_sum : ∀ ks : List Tr, szs ks = (ks.map sz).sum
  | [] => by simp [szs]
  | t :: ts => by rw [szs, szs_sum ts]; rfl
theorem sz_pos : ∀ t : Tr, 1 ≤ sz t
  | .tx _ => by rw [sz]; exact Nat.le_refl _
  | .el _ _ ks => by rw [sz]; omega
theorem len_szs : ∀ ks : List Tr, ks.length ≤ szs ks
  | [] => by simp [szs]
  | t :: ts => by have := len_szs ts; have := sz_pos t; rw [szs, List.length_cons]; omega
abbrev Pl := List Int
def pl (p : Pl) : D := .tup (p.map D.int)
def atT : Tr → Pl → Option Tr
  | t, [] => some t
  | .tx _, _ :: _ => none
  | .el _ _ ks, i :: p => if 0 ≤ i then (match ks[i.toNat]? with
    | some u => atT u p
    | none => none) else none
theorem atT_app : ∀ (p : Pl) (t : Tr) (q : Pl), atT t (p ++ q) = (atT t p).bind fun u => atT u q
  | [], t, q => by simp [atT]
  | i :: p, .tx _, q => by simp [atT]
  | i :: p, .el k m ks, q => by
    rw [List.cons_append, atT, atT]
    by_cases h : 0 ≤ i
    · rw [if_pos h, if_pos h]
      cases ks[i.toNat]? with
      | none => rfl
      | some u => exact atT_app p u q
    · rw [if_neg h, if_neg h]; rfl
def isTx : Tr → Bool
  | .tx _ => true
  | .el _ _ _ => false
def stepT : Tr → Int → Option Tr
  | .tx _, _ => none
  | .el _ _ ks, i => if 0 ≤ i then ks[i.toNat]? else none
theorem stepT_el (k m : D) (ks : List Tr) (i : Int) : stepT (.el k m ks) i = if 0 ≤ i then ks[i.toNat]? else none := rfl
theorem atT_one (t : Tr) (i : Int) : atT t [i] = stepT t i := by
  cases t with
  | tx l => rfl
  | el k m ks =>
    rw [atT, stepT]
    by_cases h : 0 ≤ i
    · rw [if_pos h, if_pos h]
      cases ks[i.toNat]? with
      | none => rfl
      | some u => simp [atT]
    · rw [if_neg h, if_neg h]
theorem atT_snoc (t : Tr) (p : Pl) (i : Int) : atT t (p ++ [i]) = (atT t p).bind fun u => stepT u i := by
  rw [atT_app]
  congr 1
  funext u
  exact atT_one u i
def NoP (p : Pl) (n : Str) (ns : List Str) (vs : List D) : Prop := n = ("NoPlace" : Str) ∧ ns = [("place" : Str)] ∧ vs = [pl p]
theorem node_sp (t : Tr) (p : Pl) : Rs (F_node_at [tD t, pl p]) (fun d => ∃ u, atT t p = some u ∧ d = tD u) (fun n ns vs => atT t p = none ∧ NoP p n ns vs) := by
  refine rs_run ?_
  unfold Fb_node_at
  show Ss (seqF _ _ [some (tD t), some (pl p), none, none]) _ _ _ _ _
  refine ss_seq (ss_set (rs_var rfl ?_))
  refine ss_seq (ss_for (fun i r => i ≤ p.length ∧ ∃ u x, atT t (p.take i) = some u ∧ r = [some (tD t), some (pl p), some (tD u), x]) (rs_it (rs_var rfl ?_)))
  show Rs (.ok (p.map D.int)) _ _
  refine ⟨⟨by omega, t, none, by rw [List.take_zero]; simp [atT], rfl⟩, ?_, ?_⟩
  · rintro i d r hd ⟨_, u, x, hu, rfl⟩
    rw [List.getElem?_map] at hd
    cases hi : p[i]? with
    | none => rw [hi] at hd; cases hd
    | some j =>
      rw [hi] at hd; cases hd
      have hil := (List.getElem?_eq_some_iff.mp hi).1
      have hst : atT t (p.take (i + 1)) = stepT u j := by rw [take_snoc hi, atT_snoc, hu]; rfl
      have hno : stepT u j = none → atT t p = none := fun h => by
        have : p = p.take (i + 1) ++ p.drop (i + 1) := (List.take_append_drop _ _).symm
        rw [this, atT_app, hst, h]; rfl
      refine ⟨[some (tD t), some (pl p), some (tD u), some (.int j)], rfl, ?_⟩
      unfold Lp_node_at_1
      have rai : stepT u j = none → ∀ (r : Rho) (N B C : Rho → Prop) (R : D → Prop), r[1]? = some (some (pl p)) → Ss (raiF ("NoPlace" : Str) [("place" : Str)] false (dCons (dVar 1) dNil) r) N R B C (fun _ n ns vs => atT t p = none ∧ NoP p n ns vs) := fun h r N B C R hr =>
        ss_raise (rs_cons (rs_var hr (rs_nil ⟨rfl, hno h, rfl, rfl, rfl⟩)))
      refine ss_seq (ss_ifo ?_)
      cases u with
      | tx l =>
        rw [tD_tx]
        array_get_dec
        exact ⟨fun _ => rai rfl _ _ _ _ _ rfl, fun z => (by cases z)⟩
      | el k m ks =>
        rw [tD_el]
        array_get_dec
        refine ⟨fun z => (by cases z), fun _ => ?_⟩
        array_get_dec
        rw [List.length_map]
        refine ⟨fun h => ?_, fun h => ?_⟩
        · refine rai ?_ _ _ _ _ _ rfl
          rw [stepT_el]
          by_cases h0 : 0 ≤ j
          · rw [if_pos h0]
            refine List.getElem?_eq_none ?_
            simp [h0] at h
            omega
          · rw [if_neg h0]
        · have h0 : 0 ≤ j ∧ j.toNat < ks.length := by simp at h; omega
          obtain ⟨uu, hks⟩ : ∃ uu, ks[j.toNat]? = some uu := ⟨_, List.getElem?_eq_getElem h0.2⟩
          have hat : atI (ks.map tD) j = some (tD uu) := by
            have e : ((j.toNat : Nat) : Int) = j := by omega
            rw [← e]
            exact atI_nat (by rw [List.getElem?_map, hks]; rfl)
          refine ss_nx (ss_set (rs_op (rs_op (rs_var rfl (rs_c ?_)))))
          refine rs_ixT (d := .tup (ks.map tD)) (atI_nat (j := 2) rfl) (rs_var rfl ?_)
          refine rs_ixT (d := tD uu) hat ⟨by omega, uu, some (.int j), by rw [hst, stepT_el, if_pos h0.1, hks], rfl⟩
  · rintro r ⟨_, u, x, hu, rfl⟩
    rw [List.length_map, List.take_length] at hu
    exact ss_ret (rs_var rfl ⟨u, hu, rfl⟩)
theorem element_sp (t : Tr) (p : Pl) : Rs (F_element_at [tD t, pl p]) (fun d => ∃ k m ks, atT t p = some (.el k m ks) ∧ d = tD (.el k m ks)) (fun n ns vs => (∀ k m ks, atT t p ≠ some (.el k m ks)) ∧ NoP p n ns vs) := by
  refine rs_run ?_
  unfold Fb_element_at
  show Ss (seqF _ _ [some (tD t), some (pl p), none]) _ _ _ _ _
  refine ss_seq (ss_set (rs_call (rs_cons (rs_var rfl (rs_cons (rs_var rfl (rs_nil ?_)))))))
  refine (node_sp t p).impE ?_ (fun n ns vs h => ⟨fun k m ks z => (by rw [h.1] at z; cases z), h.2⟩)
  rintro _ ⟨u, hu, rfl⟩
  cases u with
  | tx l =>
    rw [tD_tx]
    array_get_dec
    refine ⟨fun _ => ?_, fun z => (by cases z)⟩
    exact ss_raise (rs_cons (rs_var rfl (rs_nil ⟨rfl, fun k m ks z => (by rw [hu] at z; cases z), rfl, rfl, rfl⟩)))
  | el k m ks =>
    rw [tD_el]
    array_get_dec
    refine ⟨fun z => (by cases z), fun _ => ?_⟩
    array_get_dec
    exact ⟨k, m, ks, hu, (tD_el k m ks).symm⟩
/-- the last element ahead of i -/
def lastE : List Tr → Nat → Option Nat
  | _, 0 => none
  | ks, i + 1 => match ks[i]? with
    | some (.el _ _ _) => some i
    | _ => lastE ks i
def eldD (q : Pl) : Option Nat → D
  | some j => pl (q ++ [(j : Int)])
  | none => .non
theorem rs_rng3 {i j : Int} {Q : List D → Prop} {E : Str → List Str → List D → Prop} (h : -4611686018427387904 ≤ i ∧ i < 4611686018427387904 ∧ -4611686018427387904 ≤ j ∧ j < 4611686018427387904) (q : Q (rngDn i (i - j).toNat)) : Rs (rng3 [.int i, .int j, .int (-1)]) Q E := rs_guard h q
theorem rs_eqPl {p q : Pl} {Q : D → Prop} {E : Str → List Str → List D → Prop} (h : Q (.bl (decide (p = q)))) : Rs (eqD (pl p) (pl q)) Q E :=
  rs_eqC (cd_tup cd_int) (by decide) (fun _ _ => trivial) (fun _ _ => trivial) rfl h
theorem cut_init {α : Type} (q : List α) (x : α) : cutL (q ++ [x]) none (some (-1)) = q := by
  rw [show (-1 : Int) = -((1 : Nat) : Int) from rfl, cut_back _ 1 (by omega), List.length_append]
  simp
theorem elder_root (t : Tr) (h : isTx t = false) : F_elder_of [tD t, pl []] = .ok .non := Rs.eq (by
  refine rs_run ?_
  unfold Fb_elder_of
  show Ss (seqF _ _ [some (tD t), some (pl []), none, none]) _ _ _ _ _
  refine ss_seq (ss_drop (rs_call (rs_cons (rs_var rfl (rs_cons (rs_var rfl (rs_nil ?_)))))))
  refine (element_sp t []).impE (fun d _ => ?_) (fun n ns vs z => ?_)
  · refine ss_seq (ss_if (rs_T (rs_op (rs_var rfl (rs_tup (rs_nil ⟨Nat.zero_le _, ?_⟩))))))
    refine rs_eqPl (p := []) (q := []) (rs_asB ⟨fun _ => ss_ret (rs_c rfl), fun z => (by cases z)⟩)
  · cases t with
    | tx l => cases h
    | el k m ks => exact (z.1 k m ks (by simp [atT])).elim)
theorem elder_sp {t : Tr} {q : Pl} {i : Nat} {k m k2 m2 : D} {ks ks2 : List Tr} (hq : atT t q = some (.el k m ks)) (hi : ks[i]? = some (.el k2 m2 ks2)) (hl : q.length ≤ 10000) (hil : i ≤ 100000) : F_elder_of [tD t, pl (q ++ [(i : Int)])] = .ok (eldD q (lastE ks i)) := Rs.eq (by
  have hat : atT t (q ++ [(i : Int)]) = some (.el k2 m2 ks2) := by
    rw [atT_snoc, hq]
    show stepT (.el k m ks) (i : Int) = _
    rw [stepT_el, if_pos (by omega), Int.toNat_natCast]; exact hi
  refine rs_run ?_
  unfold Fb_elder_of
  show Ss (seqF _ _ [some (tD t), some (pl (q ++ [(i : Int)])), none, none]) _ _ _ _ _
  refine ss_seq (ss_drop (rs_call (rs_cons (rs_var rfl (rs_cons (rs_var rfl (rs_nil ?_)))))))
  refine (element_sp t _).impE (fun d _ => ?_) (fun n ns vs z => (z.1 _ _ _ hat).elim)
  refine ss_seq (ss_if (rs_T (rs_op (rs_var rfl (rs_tup (rs_nil ⟨Nat.zero_le _, ?_⟩))))))
  refine rs_eqPl (p := q ++ [(i : Int)]) (q := []) (rs_asB ⟨fun z => ?_, fun _ => ?_⟩)
  · have := of_decide_eq_true z
    simp at this
  refine ss_nx (ss_seq (ss_set (rs_op (rs_call (rs_cons (rs_var rfl (rs_cons ?_)))))))
  refine rs_sl (rs_var rfl (rs_noP (rs_part (rs_un (rs_c (rs_neg (rs_asI ?_)))))))
  refine rs_slT ?_
  have ec : cutL ((q ++ [(i : Int)]).map D.int) none (some (-1)) = q.map D.int := by rw [List.map_append]; exact cut_init _ _
  rw [ec]
  refine rs_nil ?_
  show Rs (F_node_at [tD t, pl q]) _ _
  refine (node_sp t q).impE ?_ (fun n ns vs z => by rw [hq] at z; cases z.1)
  rintro _ ⟨u, hu, rfl⟩
  rw [hq] at hu; cases hu
  rw [tD_el]
  refine rs_c ?_
  refine rs_ixT (d := .tup (ks.map tD)) (atI_nat (j := 2) rfl) ?_
  have ei : Rs (ixD (pl (q ++ [(i : Int)])) (.int (-1))) (fun d => d = .int (i : Int)) nE := by
    unfold pl
    rw [List.map_append]
    exact rs_ixT (atI_last _ _) rfl
  refine ss_seq (ss_for (fun n r => n ≤ i ∧ lastE ks i = lastE ks (i - n) ∧ ∃ x, r = [some (tD t), some (pl (q ++ [(i : Int)])), some (.tup (ks.map tD)), x]) ?_)
  refine rs_its (rs_cons (rs_op (rs_op (rs_var rfl (rs_un (rs_c (rs_neg ?_)))))))
  refine ei.impE ?_ fun _ _ _ z => z.elim
  rintro _ rfl
  refine rs_c (rs_sub (rs_cons (rs_un (rs_c (rs_neg (rs_cons (rs_un (rs_c (rs_neg (rs_nil ?_))))))))))
  refine rs_rng3 ⟨by omega, by omega, by omega, by omega⟩ ?_
  rw [show ((i : Int) - 1 - -1).toNat = i from by omega]
  refine ⟨⟨by omega, rfl, none, rfl⟩, ?_, ?_⟩
  · rintro n d r hd ⟨_, hle, x, rfl⟩
    unfold rngDn at hd
    rw [List.getElem?_map] at hd
    have hn : n < i := by
      by_cases h : n < i
      · exact h
      · rw [List.getElem?_eq_none (by rw [List.length_range]; omega)] at hd; cases hd
    rw [List.getElem?_range hn] at hd
    cases hd
    have hidx : ((i : Int) - 1 - (n : Int)) = ((i - 1 - n : Nat) : Int) := by omega
    show ∃ r1, tgN 3 (.int ((i : Int) - 1 - (n : Int))) _ = Res.ok r1 ∧ _
    rw [hidx]
    have hlt : i - 1 - n < ks.length := by have := (List.getElem?_eq_some_iff.mp hi).1; omega
    have hg : ks[i - 1 - n]? = some ks[i - 1 - n] := List.getElem?_eq_getElem hlt
    have hstep : lastE ks (i - n) = match ks[i - 1 - n]? with
      | some (.el _ _ _) => some (i - 1 - n)
      | _ => lastE ks (i - 1 - n) := by
      rw [show i - n = (i - 1 - n) + 1 by omega, lastE]
    refine ⟨[some (tD t), some (pl (q ++ [(i : Int)])), some (.tup (ks.map tD)), some (.int ((i - 1 - n : Nat) : Int))], rfl, ?_⟩
    unfold Lp_elder_of_1
    refine ss_if (rs_not (rs_T (rs_un (rs_op (rs_var rfl (rs_var rfl ?_))))))
    refine rs_ixT (d := tD ks[i - 1 - n]) (atI_nat (by rw [List.getElem?_map, hg]; rfl)) ?_
    cases hu : ks[i - 1 - n] with
    | tx l =>
      rw [hg, hu] at hstep
      rw [tD_tx]
      array_get_dec
      refine ⟨fun z => (by cases z), fun _ => ?_⟩
      refine ss_nx ⟨by omega, by rw [hle, hstep, show i - (n + 1) = i - 1 - n by omega], _, rfl⟩
    | el k3 m3 ks3 =>
      rw [hg, hu] at hstep
      rw [tD_el]
      array_get_dec
      refine ⟨fun _ => ?_, fun z => (by cases z)⟩
      refine ss_ret (rs_op ?_)
      refine rs_sl (rs_var rfl (rs_noP (rs_part (rs_un (rs_c (rs_neg (rs_asI ?_)))))))
      refine rs_slT ?_
      rw [ec]
      refine rs_tup (rs_cons (rs_var rfl (rs_nil ⟨Nat.le_of_ble_eq_true rfl, ?_⟩)))
      refine rs_addT (Nat.le_trans (show _ ≤ 100000 by simp; omega) sz5) ?_
      rw [hle, hstep]
      show D.tup (q.map D.int ++ [D.int ((i - 1 - n : Nat) : Int)]) = D.tup ((q ++ [((i - 1 - n : Nat) : Int)]).map D.int)
      rw [List.map_append]
      rfl
  · rintro r ⟨_, hle, x, rfl⟩
    have : (rngDn ((i : Int) - 1) i).length = i := by unfold rngDn; simp
    rw [this, Nat.sub_self] at hle
    refine ss_ret (rs_c ?_)
    rw [hle]
    rfl)
theorem elder_no {t : Tr} {p : Pl} (h : ∀ k m ks, atT t p ≠ some (.el k m ks)) : F_elder_of [tD t, pl p] = .err ("NoPlace" : Str) [("place" : Str)] [pl p] := Rs.errEq (by
  refine rs_run ?_
  unfold Fb_elder_of
  show Ss (seqF _ _ [some (tD t), some (pl p), none, none]) _ _ _ _ _
  refine ss_seq (ss_drop (rs_call (rs_cons (rs_var rfl (rs_cons (rs_var rfl (rs_nil ?_)))))))
  refine (element_sp t p).impE ?_ (fun n ns vs z => z.2)
  rintro _ ⟨k, m, ks, z, _⟩
  exact (h k m ks z).elim)
end
section
theorem sz_el (k m : D) (ks : List Tr) : sz (.el k m ks) = 1 + szs ks := by rw [sz]
theorem le_sum : ∀ (l : List Nat) (x : Nat), x ∈ l → x ≤ l.sum
  | y :: l, x, h => by
    rw [List.sum_cons]
    rcases List.mem_cons.mp h with h | h
    · omega
    · have := le_sum l x h; omega
theorem at_len : ∀ (p : Pl) (t u : Tr), atT t p = some u → p.length + sz u ≤ sz t
  | [], t, u, h => by
    simp [atT] at h
    subst h
    simp
  | i :: p, .tx _, u, h => by simp [atT] at h
  | i :: p, .el k m ks, u, h => by
    rw [atT] at h
    by_cases h0 : 0 ≤ i
    · rw [if_pos h0] at h
      cases hk : ks[i.toNat]? with
      | none => rw [hk] at h; cases h
      | some v =>
        rw [hk] at h
        have ih := at_len p v u h
        have hv : sz v ≤ szs ks := by
          rw [szs_sum]
          exact le_sum _ _ (List.mem_map.mpr ⟨v, List.mem_of_getElem? hk, rfl⟩)
        rw [sz_el, List.length_cons]
        omega
    · rw [if_neg h0] at h; cases h
abbrev PN := Pl × Tr
def pnD (x : PN) : D := .tup [pl x.1, tD x.2]
def szN (l : List PN) : Nat := (l.map fun x => sz x.2).sum
theorem szN_app (a b : List PN) : szN (a ++ b) = szN a + szN b := by unfold szN; rw [List.map_append, List.sum_append]
theorem szN_len (l : List PN) : l.length ≤ szN l := by
  induction l with
  | nil => simp [szN]
  | cons x l ih =>
    have := sz_pos x.2
    unfold szN at ih ⊢
    rw [List.map_cons, List.sum_cons, List.length_cons]
    omega
def kidN (p : Pl) (ks : List Tr) : List PN := (List.range ks.length).map fun (i : Nat) => (p ++ [(i : Int)], ks.getD i (.tx []))
theorem kidN_at {p : Pl} {ks : List Tr} {i : Nat} {u : Tr} (h : ks[i]? = some u) : (kidN p ks)[i]? = some (p ++ [(i : Int)], u) := by
  unfold kidN
  have hl := (List.getElem?_eq_some_iff.mp h).1
  rw [List.getElem?_map, List.getElem?_range hl]
  simp [List.getD_eq_getElem?_getD, h]
theorem kidN_sz (p : Pl) (ks : List Tr) : szN (kidN p ks) = szs ks := by
  unfold szN kidN
  rw [szs_sum, List.map_map]
  congr 1
  apply List.ext_getElem
  · simp
  · intro i h1 h2
    simp at h1 h2
    simp [h1]
def OkN (t : Tr) (l : List PN) : Prop := ∀ x ∈ l, atT t x.1 = some x.2
theorem nodes_sp (t : Tr) (ht : sz t ≤ 5000) : Rs (F_l_nodes [tD t]) (fun d => ∃ L : List PN, d = .lst (L.map pnD) ∧ OkN t L) nE := by
  refine rs_run ?_
  unfold Fb_l_nodes
  show Ss (seqF _ _ [some (tD t), none, none, none, none, none]) _ _ _ _ _
  refine ss_seq (ss_set (rs_lst (rs_nil ⟨Nat.zero_le _, ?_⟩)))
  refine ss_seq (ss_set (rs_lst (rs_cons (rs_tup (rs_cons (rs_tup (rs_nil ⟨Nat.zero_le _, rs_cons (rs_var rfl (rs_nil ⟨Nat.le_of_ble_eq_true rfl, rs_nil ⟨Nat.le_of_ble_eq_true rfl, ?_⟩⟩))⟩)))))))
  refine ss_seq (ss_while 100000 (fun k r => ∃ (L W : List PN) (x3 x4 x5 : Option D), r = [some (tD t), some (.lst (L.map pnD)), some (.lst (W.map pnD)), x3, x4, x5] ∧ OkN t L ∧ OkN t W ∧ L.length + szN W ≤ sz t ∧ szN W = k) ?_ (sz t) _ (by omega) ⟨[], [([], t)], none, none, none, rfl, fun x hx => (by cases hx), fun x hx => by cases List.mem_singleton.mp hx; simp [atT], by simp [szN], by simp [szN]⟩)
  rintro k r ⟨L, W, x3, x4, x5, rfl, hL, hW, hlen, rfl⟩
  have hWl := szN_len W
  refine rs_T (rs_op (rs_call (rs_cons (rs_var rfl (rs_nil (rs_lenL (rs_c (rs_gt (rs_asB ⟨fun h => ?_, fun _ => ss_ret (rs_var rfl ⟨L, rfl, hL⟩)⟩)))))))))
  have h := of_decide_eq_true h
  rw [List.length_map] at h
  obtain ⟨W', x, rfl⟩ : ∃ W' x, W = W' ++ [x] := ⟨W.dropLast, W.getLast (fun z => by rw [z] at h; simp at h), (List.dropLast_concat_getLast _).symm⟩
  obtain ⟨p, u⟩ := x
  have hu : atT t p = some u := hW (p, u) (by simp)
  have hW' : OkN t W' := fun x hx => hW x (by simp [hx])
  rw [szN_app] at hlen hWl ⊢
  have hs1 : szN [(p, u)] = sz u := by simp [szN]
  rw [hs1] at hlen hWl ⊢
  have hpu := at_len p t u hu
  unfold Lp_l_nodes_2
  refine ss_seq (ss_cut (fun z => z = [some (tD t), some (.lst (L.map pnD)), some (.lst (W'.map pnD)), some (pl p), some (tD u), x5]) ?_ ?_)
  · have e1 : ((W' ++ [(p, u)]).map pnD) = W'.map pnD ++ [pnD (p, u)] := by rw [List.map_append]; rfl
    unfold popF
    refine ss_lift (Rs.of (a := W'.map pnD ++ [pnD (p, u)]) (by show ownL 2 _ = _; rw [e1]; rfl) ?_)
    rw [show (W'.map pnD ++ [pnD (p, u)])[(W'.map pnD ++ [pnD (p, u)]).length - 1]? = some (pnD (p, u)) from by simp]
    dsimp only
    rw [List.dropLast_concat]
    show Ss (SR.nx _) _ _ _ _ _
    rfl
  rintro _ rfl
  have hLl : (L.map pnD).length < sizeLine := by rw [List.length_map]; exact Nat.lt_of_lt_of_le (show L.length < 100000 by omega) sz5
  refine ss_seq (ss_app rfl (rs_tup (rs_cons (rs_var rfl (rs_cons (rs_var rfl (rs_nil ⟨Nat.le_of_ble_eq_true rfl, hLl, ?_⟩)))))))
  have eL : D.lst (L.map pnD ++ [.tup [pl p, tD u]]) = .lst ((L ++ [(p, u)]).map pnD) := by rw [List.map_append]; rfl
  have hL2 : OkN t (L ++ [(p, u)]) := fun x hx => by
    rcases List.mem_append.mp hx with hx | hx
    · exact hL x hx
    · cases List.mem_singleton.mp hx; exact hu
  show Ss (ifF _ _ _ [some (tD t), some (.lst (L.map pnD ++ [.tup [pl p, tD u]])), some (.lst (W'.map pnD)), some (pl p), some (tD u), x5]) _ _ _ _ _
  rw [eL]
  cases u with
  | tx l =>
    have e5 := sz_pos (.tx l)
    refine ss_if (rs_not (rs_T (rs_un (rs_var rfl ?_))))
    rw [tD_tx]
    array_get_dec
    refine ⟨fun z => (by cases z), fun _ => ?_⟩
    refine ss_nx ⟨szN W', by omega, L ++ [(p, Tr.tx l)], W', _, _, _, rfl, hL2, hW', by rw [List.length_append, List.length_singleton]; omega, rfl⟩
  | el k m ks =>
    rw [sz_el] at hlen hWl hpu ⊢
    have hkl := len_szs ks
    have hkid : OkN t (kidN p ks) := fun x hx => by
      obtain ⟨i, hi, rfl⟩ := List.mem_map.mp hx
      have hi := List.mem_range.mp hi
      have hg : ks[i]? = some (ks.getD i (.tx [])) := by rw [List.getD_eq_getElem?_getD, List.getElem?_eq_getElem hi]; rfl
      show atT t (p ++ [(i : Int)]) = some (ks.getD i (.tx []))
      rw [atT_snoc, hu]
      show stepT (.el k m ks) (i : Int) = _
      rw [stepT_el, if_pos (by omega), Int.toNat_natCast]
      exact hg
    refine ss_if (rs_not (rs_T (rs_un (rs_var rfl ?_))))
    rw [tD_el]
    array_get_dec
    refine ⟨fun _ => ?_, fun z => (by cases z)⟩
    refine ss_for (fun n r => n ≤ ks.length ∧ ∃ x5, r = [some (tD t), some (.lst ((L ++ [(p, Tr.el k m ks)]).map pnD)), some (.lst ((W' ++ ((kidN p ks).drop (ks.length - n)).reverse).map pnD)), some (pl p), some (.tup [k, m, .tup (ks.map tD)]), x5]) ?_
    refine rs_its (rs_cons (rs_op (rs_call (rs_cons (rs_op (rs_var rfl (rs_c ?_)))))))
    refine rs_ixT (d := .tup (ks.map tD)) (atI_nat (j := 2) rfl) (rs_nil (rs_lenT ?_))
    refine rs_c (rs_sub (rs_cons (rs_un (rs_c (rs_neg (rs_cons (rs_un (rs_c (rs_neg (rs_nil ?_))))))))))
    rw [List.length_map]
    refine rs_rng3 ⟨by omega, by omega, by omega, by omega⟩ ?_
    rw [show ((ks.length : Int) - 1 - -1).toNat = ks.length from by omega]
    have hkn : (kidN p ks).length = ks.length := by unfold kidN; simp
    refine ⟨⟨by omega, x5, by rw [Nat.sub_zero, List.drop_of_length_le (by omega)]; simp⟩, ?_, ?_⟩
    · rintro n d r hd ⟨_, y5, rfl⟩
      unfold rngDn at hd
      rw [List.getElem?_map] at hd
      have hn : n < ks.length := by
        by_cases h : n < ks.length
        · exact h
        · rw [List.getElem?_eq_none (by rw [List.length_range]; omega)] at hd; cases hd
      rw [List.getElem?_range hn] at hd
      cases hd
      show ∃ r1, tgN 5 (.int ((ks.length : Int) - 1 - (n : Int))) _ = Res.ok r1 ∧ _
      rw [show ((ks.length : Int) - 1 - (n : Int)) = ((ks.length - 1 - n : Nat) : Int) by omega]
      have hlt : ks.length - 1 - n < ks.length := by omega
      have hg : ks[ks.length - 1 - n]? = some ks[ks.length - 1 - n] := List.getElem?_eq_getElem hlt
      have hka := kidN_at (p := p) hg
      generalize ks[ks.length - 1 - n] = v at hg hka
      have hdr : (kidN p ks).drop (ks.length - (n + 1)) = (p ++ [((ks.length - 1 - n : Nat) : Int)], v) :: (kidN p ks).drop (ks.length - n) := by
        have h1 : ks.length - (n + 1) < (kidN p ks).length := by omega
        rw [List.drop_eq_getElem_cons h1]
        congr 1
        · have this := List.getElem?_eq_getElem h1
          have e9 : (kidN p ks)[ks.length - (n + 1)]? = some (p ++ [((ks.length - 1 - n : Nat) : Int)], v) := by rw [show ks.length - (n + 1) = ks.length - 1 - n by omega]; exact hka
          exact Option.some.inj (this.symm.trans e9)
        · congr 1
          omega
      refine ⟨[some (tD t), some (.lst ((L ++ [(p, Tr.el k m ks)]).map pnD)), some (.lst ((W' ++ ((kidN p ks).drop (ks.length - n)).reverse).map pnD)), some (pl p), some (.tup [k, m, .tup (ks.map tD)]), some (.int ((ks.length - 1 - n : Nat) : Int))], rfl, ?_⟩
      unfold Lp_l_nodes_1
      refine ss_app rfl (rs_tup (rs_cons (rs_op (rs_var rfl (rs_tup (rs_cons (rs_var rfl (rs_nil ⟨Nat.le_of_ble_eq_true rfl, ?_⟩))))))))
      refine rs_addT (Nat.le_trans (show _ ≤ 100000 by simp; omega) sz5) ?_
      refine rs_cons (rs_op (rs_op (rs_var rfl (rs_c ?_))))
      refine rs_ixT (d := .tup (ks.map tD)) (atI_nat (j := 2) rfl) (rs_var rfl ?_)
      refine rs_ixT (d := tD v) (atI_nat (by rw [List.getElem?_map, hg]; rfl)) ?_
      refine rs_nil ⟨Nat.le_of_ble_eq_true rfl, ?_, by omega, some (.int ((ks.length - 1 - n : Nat) : Int)), ?_⟩
      · rw [List.length_map, List.length_append, List.length_reverse, List.length_drop, hkn]
        refine Nat.lt_of_lt_of_le (show _ < 100000 from ?_) sz5
        have := szN_len W'
        omega
      · rw [hdr, List.reverse_cons, ← List.append_assoc, List.map_append (l₂ := [(p ++ [((ks.length - 1 - n : Nat) : Int)], v)])]
        show _ = [some (tD t), some (.lst ((L ++ [(p, Tr.el k m ks)]).map pnD)), some (.lst ((W' ++ ((kidN p ks).drop (ks.length - n)).reverse).map pnD ++ [.tup [.tup ((p ++ [((ks.length - 1 - n : Nat) : Int)]).map D.int), tD v]])), some (pl p), some (.tup [k, m, .tup (ks.map tD)]), some (.int ((ks.length - 1 - n : Nat) : Int))]
        rw [List.map_append (l₁ := p)]
        rfl
    · rintro r ⟨_, y5, rfl⟩
      have hrl : (rngDn ((ks.length : Int) - 1) ks.length).length = ks.length := by unfold rngDn; simp
      rw [hrl, Nat.sub_self, List.drop_zero]
      have hsr : szN (W' ++ (kidN p ks).reverse) = szN W' + szs ks := by
        rw [szN_app, ← kidN_sz p ks]
        congr 1
        unfold szN
        rw [List.map_reverse, List.sum_reverse]
      refine ⟨szN W' + szs ks, by omega, L ++ [(p, Tr.el k m ks)], W' ++ (kidN p ks).reverse, _, _, _, rfl, hL2, fun x hx => ?_, by rw [List.length_append, List.length_singleton, hsr]; omega, hsr⟩
      rcases List.mem_append.mp hx with hx | hx
      · exact hW' x hx
      · exact hkid x (by simpa using hx)
end
section
def toldD (d : D) : D := .tup [.str (Sg [116, 111, 108, 100]), d]
def refuD (p : Pl) : D := .tup [.str (Sg [114, 101, 102, 117, 115, 101, 100]), pl p]
theorem asked_ok {t : Tr} {p : Pl} {d : D} (h : F_elder_of [tD t, pl p] = .ok d) : F_l_asked [tD t, pl p] = .ok (toldD d) := Rs.eq (by
  refine rs_run ?_
  unfold Fb_l_asked
  show Ss (seqF _ _ [some (tD t), some (pl p), none]) _ _ _ _ _
  refine ss_seq (ss_try (ss_ret (rs_tup (rs_cons (rs_c (rs_cons (rs_call (rs_cons (rs_var rfl (rs_cons (rs_var rfl (rs_nil ?_))))))))))))
  exact Rs.of h (rs_nil ⟨Nat.le_of_ble_eq_true rfl, rfl⟩))
theorem asked_no {t : Tr} {p : Pl} (h : ∀ k m ks, atT t p ≠ some (.el k m ks)) : F_l_asked [tD t, pl p] = .ok (refuD p) := Rs.eq (by
  refine rs_run ?_
  unfold Fb_l_asked
  show Ss (seqF _ _ [some (tD t), some (pl p), none]) _ _ _ _ _
  refine ss_seq (ss_try (ss_ret (rs_tup (rs_cons (rs_c (rs_cons (rs_call (rs_cons (rs_var rfl (rs_cons (rs_var rfl (rs_nil ?_))))))))))))
  refine Rs.ofE (elder_no h) ⟨by decide +kernel, ?_⟩
  show Ss (ifF _ _ _ [some (tD t), some (pl p), some (.obj _ _ _)]) _ _ _ _ _
  refine ss_ifa (rs_T (rs_isX (b := true) rfl (by decide +kernel) (rs_truB ⟨fun _ => ?_, fun z => (by cases z)⟩)))
  refine ss_ifa (rs_T (rs_isX (b := true) rfl (by decide +kernel) (rs_truB ⟨fun _ => ?_, fun z => (by cases z)⟩)))
  refine ss_if (rs_not (rs_T (rs_isX (b := false) rfl (by decide +kernel) (rs_truB ⟨fun _ => ?_, fun z => (by cases z)⟩))))
  refine ss_ret (rs_tup (rs_cons (rs_c (rs_cons ?_))))
  exact rs_xf (d := pl p) rfl rfl (rs_nil ⟨Nat.le_of_ble_eq_true rfl, rfl⟩))
theorem same_pl (n : Nat) (p : Pl) (hl : p.length ≤ 10000) : F_l_same (n + 2) [pl p, pl p] = .ok (.bl true) :=
  same_tup (n + 1) _ (by rw [List.length_map]; exact hl) fun d hd => by
    obtain ⟨i, _, rfl⟩ := List.mem_map.mp hd
    exact same_int n i
theorem same_told (n : Nat) (d : D) (h : F_l_same (n + 1) [d, d] = .ok (.bl true)) : F_l_same (n + 2) [toldD d, toldD d] = .ok (.bl true) :=
  same_tup (n + 1) _ (Nat.le_of_ble_eq_true rfl) fun x hx => by
    rcases List.mem_cons.mp hx with rfl | hx
    · exact same_str n _
    · rcases List.mem_singleton.mp hx with rfl
      exact h
theorem same_refu (n : Nat) (p : Pl) (hl : p.length ≤ 10000) : F_l_same (n + 3) [refuD p, refuD p] = .ok (.bl true) :=
  same_tup (n + 2) _ (Nat.le_of_ble_eq_true rfl) fun x hx => by
    rcases List.mem_cons.mp hx with rfl | hx
    · exact same_str (n + 1) _
    · rcases List.mem_singleton.mp hx with rfl
      exact same_pl n p hl
theorem same_eld (n : Nat) (p : Pl) (o : Option Nat) (hl : p.length + 1 ≤ 10000) : F_l_same (n + 2) [eldD p o, eldD p o] = .ok (.bl true) := by
  cases o with
  | none => exact same_non (n + 1)
  | some j => exact same_pl n _ (by simpa using hl)
theorem rs_place {r : Rho} {a : Nat} {fx : Rho → Res D} {p : Pl} {i : Int} {Q : D → Prop} {E : Str → List Str → List D → Prop} (h : r[a]? = some (some (pl p))) (hx : Rs (fx r) (fun d => d = .int i) nE) (hl : p.length ≤ 90000) (q : Q (pl (p ++ [i]))) : Rs (dOp addD (dVar a) (dTup (dCons fx dNil)) r) Q E := by
  refine rs_op (rs_var h (rs_tup (rs_cons (hx.impE ?_ fun _ _ _ z => z.elim))))
  rintro _ rfl
  refine rs_nil ⟨Nat.le_of_ble_eq_true rfl, ?_⟩
  unfold pl
  refine rs_addT (Nat.le_trans (show _ ≤ 100000 by simp; omega) sz5) ?_
  show Q (.tup (p.map D.int ++ [i].map D.int))
  rw [← List.map_append]
  exact q
/-- asked and compared -/
theorem rs_ask {r : Rho} {a : Nat} {fx : Rho → Res D} {p : Pl} {d : D} {t : Tr} {Q : Bool → Prop} {E : Str → List Str → List D → Prop} (h0 : r[0]? = some (some (tD t))) (h : r[a]? = some (some (pl p))) (hx : Rs (fx r) (fun x => x = d) nE)
    (h1 : F_l_asked [tD t, pl p] = .ok d) (h2 : F_l_same 4 [d, d] = .ok (.bl true)) (q : Q false) : Rs (dNot (dT (dCall (F_l_same 4) (dCons (dCall F_l_asked (dCons (dVar 0) (dCons (dVar a) dNil))) (dCons fx dNil)))) r) Q E := by
  refine rs_not (rs_T (rs_call (rs_cons (rs_call (rs_cons (rs_var h0 (rs_cons (rs_var h (rs_nil (Rs.of h1 (rs_cons (hx.impE ?_ fun _ _ _ z => z.elim))))))))))))
  rintro _ rfl
  exact rs_nil (Rs.of h2 (rs_truB q))
theorem elders_eq (t : Tr) (hr : isTx t = false) (ht : sz t ≤ 5000) (far : Int) (hf : 0 ≤ far) : F_l_elders [tD t, .int far] = .ok (.bl true) := Rs.eq (by
  refine rs_run ?_
  unfold Fb_l_elders
  show Ss (seqF _ _ [some (tD t), some (.int far), none, none, none, none, none, none, none, none]) _ _ _ _ _
  have a0 : F_l_asked [tD t, .tup []] = .ok (toldD .non) := asked_ok (p := []) (elder_root t hr)
  refine ss_seq (ss_if (rs_not (rs_T (rs_call (rs_cons (rs_call (rs_cons (rs_var rfl (rs_cons (rs_tup (rs_nil ⟨Nat.zero_le _, rs_nil (Rs.of a0 ?_)⟩)))))))))))
  refine rs_cons (rs_tup (rs_cons (rs_c (rs_cons (rs_c (rs_nil ⟨Nat.le_of_ble_eq_true rfl, rs_nil ?_⟩))))))
  refine Rs.of (same_told 2 .non (same_non 2)) (rs_truB ⟨fun z => (by cases z), fun _ => ss_nx ?_⟩)
  refine ss_seq (ss_for (fun _ r => ∃ x2 x3 x4 x5 x6 x7 x8 x9, r = [some (tD t), some (.int far), x2, x3, x4, x5, x6, x7, x8, x9]) (rs_it (rs_call (rs_cons (rs_var rfl (rs_nil ((nodes_sp t ht).impE ?_ fun _ _ _ z => z.elim)))))))
  rintro _ ⟨L, rfl, hL⟩
  refine ⟨⟨_, _, _, _, _, _, _, _, rfl⟩, ?_, ?_⟩
  · rintro i d r hd ⟨x2, x3, x4, x5, x6, x7, x8, x9, rfl⟩
    rw [List.getElem?_map] at hd
    cases hi : L[i]? with
    | none => rw [hi] at hd; cases hd
    | some x =>
    obtain ⟨p, u⟩ := x
    rw [hi] at hd; cases hd
    have hu : atT t p = some u := hL (p, u) (List.mem_of_getElem? hi)
    have hpu := at_len p t u hu
    refine ⟨[some (tD t), some (.int far), some (pl p), some (tD u), x4, x5, x6, x7, x8, x9], rfl, ?_⟩
    unfold Lp_l_elders_2
    cases u with
    | tx l =>
      rw [tD_tx]
      refine ss_seq (ss_if (rs_T (rs_un (rs_var rfl ?_))))
      array_get_dec
      exact ⟨fun _ => ⟨_, _, _, _, _, _, _, _, rfl⟩, fun z => (by cases z)⟩
    | el k m ks =>
    rw [sz_el] at hpu
    have hkl := len_szs ks
    rw [tD_el]
    refine ss_seq (ss_if (rs_T (rs_un (rs_var rfl ?_))))
    array_get_dec
    refine ⟨fun z => (by cases z), fun _ => ss_nx ?_⟩
    refine ss_seq (ss_set (rs_c ?_))
    refine ss_seq (ss_rng ks.length (fun n r => ∃ x5 x6 x7 x8 x9, r = [some (tD t), some (.int far), some (pl p), some (.tup [k, m, .tup (ks.map tD)]), some (eldD p (lastE ks n)), x5, x6, x7, x8, x9]) (rs_call (rs_cons (rs_op (rs_var rfl (rs_c (rs_ixT (d := .tup (ks.map tD)) (atI_nat (j := 2) rfl) (rs_nil (rs_lenT (by rw [List.length_map]))))))))) (by omega) ⟨_, _, _, _, _, rfl⟩ ?_ ?_)
    · rintro n r hn ⟨x5, x6, x7, x8, x9, rfl⟩
      have hg : ks[n]? = some ks[n] := List.getElem?_eq_getElem hn
      show Ss (Lp_l_elders_1 [some (tD t), some (.int far), some (pl p), some (.tup [k, m, .tup (ks.map tD)]), some (eldD p (lastE ks n)), some (.int (n : Int)), x6, x7, x8, x9]) _ _ _ _ _
      unfold Lp_l_elders_1
      generalize ks[n] = v at hg
      have hat : atT t (p ++ [(n : Int)]) = some v := by
        rw [atT_snoc, hu]
        show stepT (.el k m ks) (n : Int) = _
        rw [stepT_el, if_pos (by omega), Int.toNat_natCast]; exact hg
      refine ss_seq (ss_set (rs_place rfl (rs_var rfl rfl) (by omega) ?_))
      refine ss_seq (ss_set (rs_tup (rs_cons (rs_c (rs_cons (rs_var rfl (rs_nil ⟨Nat.le_of_ble_eq_true rfl, ?_⟩)))))))
      refine ss_seq (ss_set (rs_place (p := p ++ [(n : Int)]) rfl (rs_var rfl rfl) (by simp; omega) ?_))
      refine ss_seq (ss_cut (fun z => z = [some (tD t), some (.int far), some (pl p), some (.tup [k, m, .tup (ks.map tD)]), some (eldD p (lastE ks (n + 1))), some (.int (n : Int)), some (pl (p ++ [(n : Int)])), some (match v with
        | .tx _ => refuD (p ++ [(n : Int)])
        | .el _ _ _ => toldD (eldD p (lastE ks n))), some (pl (p ++ [(n : Int)] ++ [far])), x9]) ?_ ?_)
      · show Ss (ifF _ _ _ [some (tD t), some (.int far), some (pl p), some (.tup [k, m, .tup (ks.map tD)]), some (eldD p (lastE ks n)), some (.int (n : Int)), some (pl (p ++ [(n : Int)])), some (toldD (eldD p (lastE ks n))), some (pl (p ++ [(n : Int)] ++ [far])), x9]) _ _ _ _ _
        have hl1 : lastE ks (n + 1) = match ks[n]? with
          | some (.el _ _ _) => some n
          | _ => lastE ks n := by rw [lastE] <;> rfl
        refine ss_if (rs_T (rs_un (rs_op (rs_op (rs_var rfl (rs_c ?_))))))
        refine rs_ixT (d := .tup (ks.map tD)) (atI_nat (j := 2) rfl) (rs_var rfl ?_)
        refine rs_ixT (d := tD v) (atI_nat (by rw [List.getElem?_map, hg]; rfl)) ?_
        cases v with
        | tx l =>
          rw [hg] at hl1
          rw [hl1, tD_tx]
          array_get_dec
          refine ⟨fun _ => ?_, fun z => (by cases z)⟩
          refine ss_seq (ss_set (rs_tup (rs_cons (rs_c (rs_cons (rs_var rfl (rs_nil ⟨Nat.le_of_ble_eq_true rfl, ?_⟩)))))))
          show Ss (ifF _ _ _ [some (tD t), some (.int far), some (pl p), some (.tup [k, m, .tup (ks.map tD)]), some (eldD p (lastE ks n)), some (.int (n : Int)), some (pl (p ++ [(n : Int)])), some (refuD (p ++ [(n : Int)])), some (pl (p ++ [(n : Int)] ++ [far])), x9]) _ _ _ _ _
          refine ss_ifa (rs_T (rs_op (rs_call (rs_cons (rs_var rfl (rs_nil (rs_lenT (rs_c (rs_lt (rs_asB ⟨fun _ => ?_, fun _ => ss_nx rfl⟩))))))))))
          refine ss_if (rs_ask (t := t) (p := p ++ [(n : Int)] ++ [far]) (d := refuD (p ++ [(n : Int)] ++ [far])) rfl rfl ?_ (asked_no ?_) (same_refu 1 _ (by simp; omega)) ⟨fun z => (by cases z), fun _ => ss_nx rfl⟩)
          · exact rs_tup (rs_cons (rs_c (rs_cons (rs_var rfl (rs_nil ⟨Nat.le_of_ble_eq_true rfl, rfl⟩)))))
          · intro k m ks z
            rw [atT_snoc, hat] at z
            cases z
        | el k2 m2 ks2 =>
          rw [hg] at hl1
          rw [hl1, tD_el]
          array_get_dec
          refine ⟨fun z => (by cases z), fun _ => ?_⟩
          exact ss_set (rs_var rfl rfl)
      rintro _ rfl
      cases v with
      | tx l =>
        refine ss_if (rs_ask (t := t) (p := p ++ [(n : Int)]) (d := refuD (p ++ [(n : Int)])) rfl rfl (rs_var rfl rfl) (asked_no ?_) (same_refu 1 _ (by simp; omega)) ⟨fun z => (by cases z), fun _ => ss_nx ⟨_, _, _, _, _, rfl⟩⟩)
        intro k m ks z
        rw [hat] at z
        cases z
      | el k2 m2 ks2 =>
        exact ss_if (rs_ask (t := t) (p := p ++ [(n : Int)]) (d := toldD (eldD p (lastE ks n))) rfl rfl (rs_var rfl rfl) (asked_ok (elder_sp hu hg (by omega) (by omega))) (same_told 2 _ (same_eld 1 _ _ (by omega))) ⟨fun z => (by cases z), fun _ => ss_nx ⟨_, _, _, _, _, rfl⟩⟩)
    · rintro r ⟨x5, x6, x7, x8, x9, rfl⟩
      refine ss_seq (ss_set (rs_place (i := (ks.length : Int) + far) rfl ?_ (by omega) ?_))
      · refine rs_op (rs_call (rs_cons (rs_op (rs_var rfl (rs_c (rs_ixT (d := .tup (ks.map tD)) (atI_nat (j := 2) rfl) (rs_nil (rs_lenT (rs_var rfl (rs_add ?_))))))))))
        rw [List.length_map]
      show Ss (ifF _ _ _ [some (tD t), some (.int far), some (pl p), some (.tup [k, m, .tup (ks.map tD)]), some (eldD p (lastE ks ks.length)), x5, x6, x7, x8, some (pl (p ++ [(ks.length : Int) + far]))]) _ _ _ _ _
      refine ss_ifa (rs_T (rs_op (rs_call (rs_cons (rs_var rfl (rs_nil (rs_lenT (rs_c (rs_lt (rs_asB ⟨fun _ => ?_, fun _ => ss_nx ⟨_, _, _, _, _, _, _, _, rfl⟩⟩))))))))))
      refine ss_if (rs_ask (t := t) (p := p ++ [(ks.length : Int) + far]) (d := refuD (p ++ [(ks.length : Int) + far])) rfl rfl ?_ (asked_no ?_) (same_refu 1 _ (by simp; omega)) ⟨fun z => (by cases z), fun _ => ss_nx ⟨_, _, _, _, _, _, _, _, rfl⟩⟩)
      · exact rs_tup (rs_cons (rs_c (rs_cons (rs_var rfl (rs_nil ⟨Nat.le_of_ble_eq_true rfl, rfl⟩)))))
      · intro k3 m3 ks3 z
        rw [atT_snoc, hu] at z
        have z : stepT (.el k m ks) ((ks.length : Int) + far) = some (.el k3 m3 ks3) := z
        rw [stepT_el, if_pos (by omega), List.getElem?_eq_none (by omega)] at z
        cases z
  · rintro r ⟨x2, x3, x4, x5, x6, x7, x8, x9, rfl⟩
    exact ss_ret (rs_c rfl))
end
section
def wD (w : List Nat) : D := .str (Sg w)
theorem fit_drop2 : ∀ (n : Nat) {vs ls : List Int}, Fit vs ls → Fit (vs.drop n) (ls.drop n)
  | 0, vs, ls, h => h
  | n + 1, vs, [], h => by rw [h.nil]; trivial
  | n + 1, vs, l :: ls, h => by
    obtain ⟨v, us, rfl, _, _, h⟩ := h.cons
    exact fit_drop2 n h
theorem fit_take2 : ∀ (n : Nat) {vs ls : List Int}, Fit vs ls → Fit (vs.take n) (ls.take n)
  | 0, vs, ls, h => trivial
  | n + 1, vs, [], h => by rw [h.nil]; trivial
  | n + 1, vs, l :: ls, h => by
    obtain ⟨v, us, rfl, h1, h2, h⟩ := h.cons
    exact ⟨h1, h2, fit_take2 n h⟩
theorem fit_mem : ∀ {vs ls : List Int} {b : Int}, Fit vs ls → (∀ l ∈ ls, l = b) → ∀ v ∈ vs, 0 ≤ v ∧ v < b
  | vs, [], b, h, _, v, hv => by rw [h.nil] at hv; cases hv
  | vs, l :: ls, b, h, hb, v, hv => by
    obtain ⟨v0, us, rfl, h1, h2, h⟩ := h.cons
    rcases List.mem_cons.mp hv with rfl | hv
    · have := hb l (List.mem_cons_self ..); omega
    · exact fit_mem h (fun l hl => hb l (List.mem_cons_of_mem _ hl)) v hv
theorem word_sp {r : Rho} {its : Rho → Res (List D)} {a m : Nat} {A : List Nat} {ps : List Int} {Q : D → Prop} {E : Str → List Str → List D → Prop} (hA : A.length ≤ 1000) (hps : ∀ p ∈ ps, 0 ≤ p ∧ p < A.length) (hl : ps.length ≤ 1000) (hi : Rs (its r) (fun ds => ds = ps.map D.int) nE)
    (ha : r[a]? = some (some (wD A))) (hm : m < r.length) (hne : a ≠ m) (q : Q (wD (ps.map fun p => A.getD p.toNat 0))) : Rs (dStr joinD (dC (.str (Sg []))) (dLc its (tgN m) dYes (dOp ixD (dVar a) (dVar m)) [m]) r) Q E := by
  refine rs_str (rs_c (rs_asS ?_))
  refine rs_lc D.int (fun p => .str (Sg [A.getD p.toNat 0])) ps (hi.impE (fun _ z => z) fun _ _ _ z => z.elim) (Nat.le_trans (show _ ≤ 100000 by omega) sz5) (fun p hp => ⟨r.set m (some (.int p)), ?_, rfl, ?_⟩) ?_
  · show Res.ok ((r.set m none).set m (some (.int p))) = _
    rw [List.set_set]
  · have hp := hps p hp
    have hlt : p.toNat < A.length := by omega
    refine rs_op (rs_var (d := wD A) (by rw [List.getElem?_set_ne (Ne.symm hne)]; exact ha) (rs_var (d := .int p) (by rw [List.getElem?_set_self hm]) ?_))
    refine rs_ixS (n := A.getD p.toNat 0) ⟨Nat.le_trans (show _ ≤ 100000 by omega) sz5, ?_⟩ rfl
    exact at_pos hp.1 (by rw [List.getD_eq_getElem?_getD, List.getElem?_eq_getElem hlt]; rfl)
  · have e : (ps.map fun p => D.str (Sg [A.getD p.toNat 0])) = (ps.map fun p => A.getD p.toNat 0).map fun n => .str (Sg [n]) := by rw [List.map_map]; rfl
    rw [e]
    exact rs_joinC (by rw [List.length_map]; omega) q
theorem ixN_nat {n k : Nat} (h : k < n) : ixN n (k : Int) = some k := by
  unfold ixN
  rw [if_pos (by omega), if_pos (by omega), Int.toNat_natCast]
def LN : List Int := [3, 8] ++ (List.replicate 8 [8, 26, 26, 26, 26, 26, 26, 26, 26]).flatten
theorem names_sp (c : Int) : Rs (F_l_names [.int c, .int 8]) (fun d => ∃ ws : List (List Nat), d = .lst (ws.map wD) ∧ ws.length = 8) nE := by
  refine rs_run ?_
  unfold Fb_l_names
  show Ss (seqF _ _ [some (.int c), some (.int 8), none, none, none, none, none, none, none, none, none]) _ _ _ _ _
  refine ss_seq (ss_cut (fun r => ∃ A : List Nat, A.length = 26 ∧ r = [some (.int c), some (.int 8), some (wD A), none, none, none, none, none, none, none, none]) (ss_set (rs_c ⟨_, rfl, rfl⟩)) ?_)
  rintro _ ⟨A, hA, rfl⟩
  refine ss_seq (ss_set (rs_call (rs_cons (rs_var rfl (rs_cons (rs_op (rs_lst (rs_cons (rs_c (rs_cons (rs_c (rs_nil ⟨Nat.le_of_ble_eq_true rfl, ?_⟩))))))))))))
  refine rs_op (rs_lst (rs_cons (rs_c (rs_cons (rs_c (rs_cons (rs_c (rs_cons (rs_c (rs_cons (rs_c (rs_cons (rs_c (rs_cons (rs_c (rs_cons (rs_c (rs_cons (rs_c (rs_nil ⟨Nat.le_of_ble_eq_true rfl, rs_var rfl ?_⟩))))))))))))))))))))
  refine rs_mulL ⟨by decide, by decide, Nat.le_of_ble_eq_true rfl⟩ ?_
  refine rs_addLL (Nat.le_of_ble_eq_true rfl) (rs_nil ?_)
  show Rs (F_l_row [.int c, iL LN]) _ _
  refine row_of c LN (by decide) (by decide) fun vs hf => ?_
  have hvl : vs.length = 74 := hf.len
  refine ss_seq (ss_set (rs_lst (rs_nil ⟨Nat.zero_le _, ?_⟩)))
  refine ss_seq (ss_rng 8 (fun k r => ∃ (ws : List (List Nat)) (x5 x6 x7 : Option D), r = [some (.int c), some (.int 8), some (wD A), some (iL vs), some (.lst (ws.map wD)), x5, x6, x7, none, none, none] ∧ ws.length = k ∧ ∀ w ∈ ws, 0 < w.length ∧ w.length ≤ 8) (rs_var rfl rfl) (by omega) ⟨[], none, none, none, rfl, rfl, fun w hw => by cases hw⟩ ?_ ?_)
  · rintro k r hk ⟨ws, x5, x6, x7, rfl, hws, hw⟩
    show Ss (Lp_l_names_1 [some (.int c), some (.int 8), some (wD A), some (iL vs), some (.lst (ws.map wD)), some (.int (k : Int)), x6, x7, none, none, none]) _ _ _ _ _
    unfold Lp_l_names_1
    have hpick : ∀ p ∈ (vs.take (9 * k + 11)).drop (9 * k + 3), 0 ≤ p ∧ p < (A.length : Int) := by
      rw [hA]
      refine fit_mem (ls := (LN.take (9 * k + 11)).drop (9 * k + 3)) (fit_drop2 _ (fit_take2 _ hf)) ?_
      have : ∀ k < 8, ∀ l ∈ (LN.take (9 * k + 11)).drop (9 * k + 3), l = ((26 : Nat) : Int) := by decide
      exact this k hk
    have hpl : ((vs.take (9 * k + 11)).drop (9 * k + 3)).length = 8 := by rw [List.length_drop, List.length_take]; omega
    refine ss_seq (ss_set (word_sp (A := A) (ps := (vs.take (9 * k + 11)).drop (9 * k + 3)) (by omega) hpick (by omega) ?_ rfl (by show 7 < 11; omega) (by decide) ?_))
    · refine rs_it (rs_sl (rs_var rfl (rs_part (rs_op (rs_op (rs_c (rs_var rfl (rs_mul (Or.inl (small_of (by omega) (by omega))) (rs_c (rs_add (rs_asI ?_)))))))))))
      refine rs_part (rs_op (rs_op (rs_c (rs_var rfl (rs_mul (Or.inl (small_of (by omega) (by omega))) (rs_c (rs_add (rs_asI ?_))))))))
      rw [show (9 * (k : Int) + 3) = ((9 * k + 3 : Nat) : Int) by omega, show (9 * (k : Int) + 11) = ((9 * k + 11 : Nat) : Int) by omega]
      refine rs_slL ?_
      rw [cut_mid, ← List.map_take, ← List.map_drop]
      rfl
    · refine ss_app rfl (rs_sl (rs_var rfl (rs_noP (rs_part (rs_op (rs_op (rs_var rfl (rs_op (rs_op (rs_c (rs_var rfl (rs_mul (Or.inl (small_of (by omega) (by omega))) (rs_c (rs_add ?_))))))))))))))
      refine ix_row (k := 9 * k + 2) (l := 8) hf (by have : ∀ k < 8, LN[9 * k + 2]? = some 8 := by decide
                                                     exact this k hk) (by omega) fun v _ h0 h1 => ?_
      refine rs_c (rs_add (rs_asI ?_))
      refine rs_slS (Nat.le_trans (show _ ≤ 100000 by rw [List.length_map]; omega) sz5) ⟨Nat.lt_of_lt_of_le (show (ws.map wD).length < 100000 by rw [List.length_map]; omega) sz5, ?_⟩
      refine ⟨ws ++ [(((vs.take (9 * k + 11)).drop (9 * k + 3)).map fun p => A.getD p.toNat 0).take (v.toNat + 1)], some (.int (k : Int)), some (wD (((vs.take (9 * k + 11)).drop (9 * k + 3)).map fun p => A.getD p.toNat 0)), x7, ?_, by rw [List.length_append, hws]; rfl, fun w hw' => ?_⟩
      · rw [show v + 1 = ((v.toNat + 1 : Nat) : Int) by omega, cut_take, List.map_append]
        rfl
      · rcases List.mem_append.mp hw' with hw' | hw'
        · exact hw w hw'
        · rw [List.mem_singleton.mp hw', List.length_take, List.length_map, hpl]
          omega
  · rintro r ⟨ws, x5, x6, x7, rfl, hws, hw⟩
    obtain ⟨w0, ws', rfl⟩ : ∃ w0 ws', ws = w0 :: ws' := by
      cases ws with
      | nil => cases hws
      | cons w ws => exact ⟨_, _, rfl⟩
    have hw0 := hw w0 (List.mem_cons_self ..)
    refine ss_seq (ss_set (rs_op (rs_var rfl (rs_c (rs_ixL (d := wD w0) (atI_nat (j := 0) rfl) ?_)))))
    refine ss_seq (ss_set (rs_op (rs_call (rs_cons (rs_op (rs_var rfl (rs_c ?_)))))))
    refine ix_row (k := 1) (l := 8) hf (by decide) rfl fun v1 _ h10 h11 => ?_
    refine rs_nil (rs_int (rs_call (rs_cons (rs_var rfl (rs_nil (rs_lenS (Nat.le_trans (show _ ≤ 100000 by omega) sz5) (rs_mod (by omega) ?_)))))))
    have hat0 : 0 ≤ v1 % (w0.length : Int) := Int.emod_nonneg _ (by omega)
    generalize v1 % (w0.length : Int) = at0 at hat0 ⊢
    refine ss_seq (ss_rng 8 (fun k r => ∃ (ws : List (List Nat)) (x5 x6 x7 x10 : Option D), r = [some (.int c), some (.int 8), some (wD A), some (iL vs), some (.lst (ws.map wD)), x5, x6, x7, some (wD w0), some (.int at0), x10] ∧ ws.length = 8) (rs_var rfl rfl) (by omega) ⟨w0 :: ws', _, _, _, none, rfl, hws⟩ ?_ ?_)
    · rintro k r hk ⟨ws, x5, x6, x7, x10, rfl, hws⟩
      show Ss (Lp_l_names_2 [some (.int c), some (.int 8), some (wD A), some (iL vs), some (.lst (ws.map wD)), some (.int (k : Int)), x6, x7, some (wD w0), some (.int at0), x10]) _ _ _ _ _
      unfold Lp_l_names_2
      have hix : ∀ {α : Type} (l : List α), l.length = 8 → ixN l.length (k : Int) = some k := fun l hl => by rw [hl]; exact ixN_nat hk
      refine ss_seq (ss_cut (fun r => ∃ (ws : List (List Nat)) (x10 : Option D), r = [some (.int c), some (.int 8), some (wD A), some (iL vs), some (.lst (ws.map wD)), some (.int (k : Int)), x6, x7, some (wD w0), some (.int at0), x10] ∧ ws.length = 8) ?_ ?_)
      · refine ss_if (rs_T (rs_op (rs_op (rs_var rfl (rs_c ?_)))))
        refine ix_row (k := 0) (l := 3) hf (by decide) rfl fun v0 _ h00 h01 => ?_
        refine rs_c (rs_eqI (rs_asB ⟨fun _ => ?_, fun _ => ss_nx ⟨ws, x10, rfl, hws⟩⟩))
        refine ss_seq (ss_set (rs_op (rs_var rfl (rs_op (rs_call (rs_cons (rs_op (rs_op (rs_var rfl (rs_c ?_))))))))))
        refine ix_row (k := 3) (l := 26) hf (by decide) rfl fun v3 _ h30 h31 => ?_
        refine rs_op (rs_c (rs_var rfl (rs_mul (Or.inl (small_of (by omega) (by omega))) (rs_add (rs_nil (rs_int (rs_c (rs_mod (by omega) ?_))))))))
        have hm0 : 0 ≤ (v3 + 5 * (k : Int)) % 26 := Int.emod_nonneg _ (by omega)
        have hm1 : (v3 + 5 * (k : Int)) % 26 < 26 := Int.emod_lt_of_pos _ (by omega)
        generalize (v3 + 5 * (k : Int)) % 26 = z at hm0 hm1 ⊢
        have hz : z.toNat < A.length := by omega
        refine rs_ixS (n := A[z.toNat]) ⟨Nat.le_trans (show _ ≤ 100000 by omega) sz5, ?_⟩ ?_
        · exact at_pos hm0 (List.getElem?_eq_getElem hz)
        refine ss_sto (n := k) (k := (k : Int)) (ds := ws.map wD) (rs_op (rs_op (rs_sl (rs_var rfl (rs_noP (rs_part (rs_var rfl (rs_asI ?_))))))))
        refine rs_slS (Nat.le_trans (show _ ≤ 100000 by omega) sz5) (rs_var rfl ?_)
        have c1 := cut_len w0 none (some at0)
        generalize cutL w0 none (some at0) = p1 at c1 ⊢
        refine rs_addS (Nat.le_trans (show _ ≤ 100000 by rw [List.length_singleton]; omega) sz5) ?_
        refine rs_sl (rs_var rfl (rs_part (rs_op (rs_var rfl (rs_c (rs_add (rs_asI (rs_noP ?_))))))))
        refine rs_slS (Nat.le_trans (show _ ≤ 100000 by omega) sz5) ?_
        have c2 := cut_len w0 (some (at0 + 1)) none
        generalize cutL w0 (some (at0 + 1)) none = p2 at c2 ⊢
        refine rs_addS (Nat.le_trans (show _ ≤ 100000 by rw [List.length_append, List.length_singleton]; omega) sz5) ?_
        refine ⟨rfl, rs_var rfl ⟨rfl, hix _ (by rw [List.length_map]; exact hws), ws.set k (p1 ++ [A[z.toNat]] ++ p2), some (wD [A[z.toNat]]), ?_, by rw [List.length_set]; exact hws⟩⟩
        rw [List.map_set]
        rfl
      rintro _ ⟨ws, x10, rfl, hws⟩
      refine ss_if (rs_T (rs_op (rs_op (rs_var rfl (rs_c ?_)))))
      refine ix_row (k := 0) (l := 3) hf (by decide) rfl fun v0 _ h00 h01 => ?_
      refine rs_c (rs_eqI (rs_asB ⟨fun _ => ?_, fun _ => ss_nx ⟨ws, _, _, _, x10, rfl, hws⟩⟩))
      refine ss_sto (n := k) (k := (k : Int)) (ds := ws.map wD) (rs_sl (rs_op (rs_var rfl (rs_c ?_))))
      refine rs_mulS ⟨by decide, by decide, Nat.le_trans (show w0.length * 8 ≤ 100000 by omega) sz5⟩ ?_
      have hfl : (List.replicate (8 : Int).toNat w0).flatten.length ≤ 1000 := by
        rw [show (8 : Int).toNat = 8 from rfl]
        simp
        omega
      generalize (List.replicate (8 : Int).toNat w0).flatten = ww at hfl ⊢
      refine rs_noP (rs_part (rs_op (rs_c (rs_op (rs_call (rs_cons (rs_var rfl (rs_nil (rs_int (rs_c (rs_mod (by omega) (rs_add (rs_asI ?_)))))))))))))
      refine rs_slS (Nat.le_trans (show _ ≤ 100000 by omega) sz5) ?_
      generalize cutL ww none _ = p1
      refine ⟨rfl, rs_var rfl ⟨rfl, hix _ (by rw [List.length_map]; exact hws), ws.set k p1, some (.int (k : Int)), x6, x7, x10, ?_, by rw [List.length_set]; exact hws⟩⟩
      rw [List.map_set]
      rfl
    · rintro r ⟨ws, x5, x6, x7, x10, rfl, hws⟩
      exact ss_ret (rs_var rfl ⟨ws, rfl, hws⟩)
end
section
def LX (n : Nat) : List Int := [40] ++ (List.replicate 5 ([12] ++ (List.replicate 12 [(n : Int)]).flatten)).flatten
theorem LX_pos {n : Nat} (h0 : 0 < n) (h1 : n ≤ 1000) : ∀ l ∈ LX n, 0 < l ∧ l < 4611686018427387904 := by
  intro l hl
  have h : l = 40 ∨ l = 12 ∨ l = (n : Int) := by
    simp [LX] at hl
    omega
  rcases h with rfl | rfl | rfl <;> omega
theorem texts_sp (c : Int) : Rs (F_l_texts [.int c, .int 5]) (fun d => ∃ ws : List (List Nat), d = .lst (ws.map wD) ∧ ws.length = 5) nE := by
  refine rs_run ?_
  unfold Fb_l_texts
  show Ss (seqF _ _ [some (.int c), some (.int 5), none, none, none, none, none, none]) _ _ _ _ _
  refine ss_seq (ss_set (rs_c ?_))
  refine ss_seq (ss_cut (fun r => ∃ A : List Nat, 0 < A.length ∧ A.length ≤ 1000 ∧ r = [some (.int c), some (.int 5), some (wD A), none, none, none, none, none]) (ss_set (rs_op (rs_op (rs_var rfl (rs_c (rs_addS (Nat.le_of_ble_eq_true rfl) (rs_c (rs_addS (Nat.le_of_ble_eq_true rfl) ?_)))))))) ?_)
  · exact ⟨_, Nat.le_of_ble_eq_true rfl, Nat.le_of_ble_eq_true rfl, rfl⟩
  rintro _ ⟨A, hA0, hA1, rfl⟩
  refine ss_seq (ss_set (rs_call (rs_cons (rs_var rfl (rs_cons (rs_op (rs_lst (rs_cons (rs_c (rs_nil ⟨Nat.le_of_ble_eq_true rfl, ?_⟩))))))))))
  refine rs_op (rs_op (rs_lst (rs_cons (rs_c (rs_nil ⟨Nat.le_of_ble_eq_true rfl, ?_⟩)))))
  refine rs_op (rs_lst (rs_cons (rs_call (rs_cons (rs_var rfl (rs_nil (rs_lenS (Nat.le_trans (show _ ≤ 100000 by omega) sz5) (rs_nil ⟨Nat.le_of_ble_eq_true rfl, rs_c ?_⟩))))))))
  refine rs_mulL ⟨by decide, by decide, Nat.le_of_ble_eq_true rfl⟩ ?_
  refine rs_addLL (Nat.le_of_ble_eq_true rfl) (rs_var rfl ?_)
  refine rs_mulL ⟨by decide, by decide, Nat.le_of_ble_eq_true rfl⟩ ?_
  refine rs_addLL (Nat.le_of_ble_eq_true rfl) (rs_nil ?_)
  show Rs (F_l_row [.int c, iL (LX A.length)]) _ _
  refine row_of c (LX A.length) (LX_pos hA0 hA1) (show (LX A.length).length < 10000 from Nat.le_of_ble_eq_true rfl) fun vs hf => ?_
  have hvl : vs.length = 66 := hf.len
  have i0 : (LX A.length)[0]? = some 40 := rfl
  have ik : ∀ k < 5, (LX A.length)[13 * k + 1]? = some 12 := fun k hk => by
    match k, hk with
    | 0, _ => rfl
    | 1, _ => rfl
    | 2, _ => rfl
    | 3, _ => rfl
    | 4, _ => rfl
  have ir : ∀ k < 5, ((LX A.length).take (13 * k + 14)).drop (13 * k + 2) = List.replicate 12 (A.length : Int) := fun k hk => by
    match k, hk with
    | 0, _ => rfl
    | 1, _ => rfl
    | 2, _ => rfl
    | 3, _ => rfl
    | 4, _ => rfl
  refine ss_seq (ss_set (rs_lst (rs_nil ⟨Nat.zero_le _, ?_⟩)))
  refine ss_seq (ss_rng 5 (fun k r => ∃ (ws : List (List Nat)) (x5 x6 x7 : Option D), r = [some (.int c), some (.int 5), some (wD A), some (iL vs), some (.lst (ws.map wD)), x5, x6, x7] ∧ ws.length = k ∧ ∀ w ∈ ws, w.length ≤ 12) (rs_var rfl rfl) (by omega) ⟨[], none, none, none, rfl, rfl, fun w hw => by cases hw⟩ ?_ ?_)
  · rintro k r hk ⟨ws, x5, x6, x7, rfl, hws, hw⟩
    show Ss (Lp_l_texts_1 [some (.int c), some (.int 5), some (wD A), some (iL vs), some (.lst (ws.map wD)), some (.int (k : Int)), x6, x7]) _ _ _ _ _
    unfold Lp_l_texts_1
    have hpick : ∀ p ∈ (vs.take (13 * k + 14)).drop (13 * k + 2), 0 ≤ p ∧ p < (A.length : Int) := by
      refine fit_mem (ls := ((LX A.length).take (13 * k + 14)).drop (13 * k + 2)) (fit_drop2 _ (fit_take2 _ hf)) ?_
      rw [ir k hk]
      exact fun l hl => (List.mem_replicate.mp hl).2
    have hpl : ((vs.take (13 * k + 14)).drop (13 * k + 2)).length = 12 := by rw [List.length_drop, List.length_take]; omega
    refine ss_seq (ss_set (word_sp (A := A) (ps := (vs.take (13 * k + 14)).drop (13 * k + 2)) (by omega) hpick (by omega) ?_ rfl (by show 7 < 8; omega) (by decide) ?_))
    · refine rs_it (rs_sl (rs_var rfl (rs_part (rs_op (rs_op (rs_c (rs_var rfl (rs_mul (Or.inl (small_of (by omega) (by omega))) (rs_c (rs_add (rs_asI ?_)))))))))))
      refine rs_part (rs_op (rs_op (rs_c (rs_var rfl (rs_mul (Or.inl (small_of (by omega) (by omega))) (rs_c (rs_add (rs_asI ?_))))))))
      rw [show (13 * (k : Int) + 2) = ((13 * k + 2 : Nat) : Int) by omega, show (13 * (k : Int) + 14) = ((13 * k + 14 : Nat) : Int) by omega]
      refine rs_slL ?_
      rw [cut_mid, ← List.map_take, ← List.map_drop]
      rfl
    · refine ss_app rfl (rs_sl (rs_var rfl (rs_noP (rs_part (rs_op (rs_op (rs_var rfl (rs_op (rs_op (rs_c (rs_var rfl (rs_mul (Or.inl (small_of (by omega) (by omega))) (rs_c (rs_add ?_))))))))))))))
      refine ix_row (k := 13 * k + 1) (l := 12) hf (ik k hk) (by omega) fun v _ h0 h1 => ?_
      refine rs_c (rs_add (rs_asI ?_))
      refine rs_slS (Nat.le_trans (show _ ≤ 100000 by rw [List.length_map]; omega) sz5) ⟨Nat.lt_of_lt_of_le (show (ws.map wD).length < 100000 by rw [List.length_map]; omega) sz5, ?_⟩
      refine ⟨ws ++ [(((vs.take (13 * k + 14)).drop (13 * k + 2)).map fun p => A.getD p.toNat 0).take (v.toNat + 1)], some (.int (k : Int)), some (wD (((vs.take (13 * k + 14)).drop (13 * k + 2)).map fun p => A.getD p.toNat 0)), x7, ?_, by rw [List.length_append, hws]; rfl, fun w hw' => ?_⟩
      · rw [show v + 1 = ((v.toNat + 1 : Nat) : Int) by omega, cut_take, List.map_append]
        rfl
      · rcases List.mem_append.mp hw' with hw' | hw'
        · exact hw w hw'
        · rw [List.mem_singleton.mp hw', List.length_take, List.length_map, hpl]
          omega
  · rintro r ⟨ws, x5, x6, x7, rfl, hws, hw⟩
    obtain ⟨ws', w0, rfl⟩ : ∃ ws' w0, ws = ws' ++ [w0] := ⟨ws.dropLast, ws.getLast (fun z => by rw [z] at hws; cases hws), (List.dropLast_concat_getLast _).symm⟩
    have hw0 := hw w0 (by simp)
    refine ss_seq (ss_if (rs_T (rs_op (rs_op (rs_var rfl (rs_c ?_))))))
    refine ix_row (k := 0) (l := 40) hf i0 rfl fun v0 _ h00 h01 => ?_
    refine rs_c (rs_lt (rs_asB ⟨fun _ => ?_, fun _ => ss_nx (ss_ret (rs_var rfl ⟨_, rfl, hws⟩))⟩))
    refine ss_sto (n := ws'.length) (k := -1) (ds := (ws' ++ [w0]).map wD) (rs_sl (rs_op (rs_op (rs_var rfl (rs_un (rs_c (rs_neg ?_)))))))
    refine rs_ixL (d := wD w0) (by rw [List.map_append]; exact at_last _ _) (rs_c ?_)
    refine rs_mulS ⟨by decide, by decide, Nat.le_trans (show w0.length * 160 ≤ 100000 by omega) sz5⟩ ?_
    have hfl : (List.replicate (160 : Int).toNat w0).flatten.length ≤ 10000 := by
      rw [show (160 : Int).toNat = 160 from rfl, List.length_flatten, List.map_replicate, List.sum_replicate_nat]
      omega
    generalize (List.replicate (160 : Int).toNat w0).flatten = ww at hfl ⊢
    refine rs_noP (rs_part (rs_op (rs_op (rs_c (rs_op (rs_var rfl (rs_c ?_)))))))
    refine ix_row (k := 0) (l := 40) hf i0 rfl fun v1 _ h10 h11 => ?_
    refine rs_mul (Or.inl (small_of (by omega) (by omega))) (rs_c (rs_add (rs_asI ?_)))
    refine rs_slS (Nat.le_trans (show _ ≤ 100000 by omega) sz5) ?_
    generalize cutL ww none _ = p1
    refine ⟨rfl, rs_un (rs_c (rs_neg ⟨rfl, by rw [List.map_append]; exact (by have := ixN_last1 (ws'.map wD) (wD w0); rw [List.length_map] at this; exact this), ?_⟩))⟩
    refine ss_ret (rs_var (d := .lst ((ws' ++ [p1]).map wD)) ?_ ⟨ws' ++ [p1], rfl, by simpa using hws⟩)
    show some (some (D.lst (((ws' ++ [w0]).map wD).set ws'.length (wD p1)))) = _
    rw [← List.map_set, set_last]
end
section
structure Fr where
  f : Nat
  g : Nat
  k : List Nat
  m : List Nat
  ks : List Tr
structure Enc (M : List (List D)) (Fs : List Fr) : Prop where
  root : M[0]? = some (Fs.map fun F => D.own F.f)
  fr : ∀ F ∈ Fs, M[F.f]? = some [wD F.k, wD F.m, .own F.g] ∧ M[F.g]? = some (F.ks.map tD) ∧ 0 < F.f ∧ F.f < F.g
  pw : Fs.Pairwise fun a b => a.g < b.f
def Fr.tree (F : Fr) : Tr := .el (wD F.k) (wD F.m) F.ks
def tot (Fs : List Fr) : Nat := (Fs.map fun F => sz F.tree).sum
theorem tot_app (A B : List Fr) : tot (A ++ B) = tot A + tot B := by unfold tot; rw [List.map_append, List.sum_append]
theorem tot_one (F : Fr) : tot [F] = 1 + szs F.ks := by
  unfold tot
  rw [List.map_singleton, List.sum_singleton]
  unfold Fr.tree
  rw [sz_el]
theorem szs_app (a b : List Tr) : szs (a ++ b) = szs a + szs b := by rw [szs_sum, szs_sum, szs_sum, List.map_append, List.sum_append]
theorem tot_len (Fs : List Fr) : Fs.length ≤ tot Fs := by
  induction Fs with
  | nil => simp [tot]
  | cons F Fs ih =>
    have := sz_pos F.tree
    unfold tot at ih ⊢
    rw [List.map_cons, List.sum_cons, List.length_cons]
    omega
def Fr.put (F : Fr) (u : Tr) : Fr := { F with ks := F.ks ++ [u] }
theorem Enc.last {M : List (List D)} {Fs : List Fr} {F : Fr} (e : Enc M (Fs ++ [F])) : ∀ F' ∈ Fs, F'.g < F.f := fun F' h => (List.pairwise_append.mp e.pw).2.2 F' h F (List.mem_singleton.mpr rfl)
theorem Enc.app {M : List (List D)} {Fs : List Fr} {F : Fr} (e : Enc M (Fs ++ [F])) (u : Tr) : Enc (M.set F.g (F.ks.map tD ++ [tD u])) (Fs ++ [F.put u]) := by
  obtain ⟨hf, hg, h0, h1⟩ := e.fr F (by simp)
  have hgl := (List.getElem?_eq_some_iff.mp hg).1
  refine ⟨?_, fun F' hF' => ?_, ?_⟩
  · rw [List.getElem?_set_ne (by omega), e.root, List.map_append, List.map_append]
    rfl
  · rcases List.mem_append.mp hF' with h | h
    · have hlt := e.last F' h
      obtain ⟨a, b, c, d⟩ := e.fr F' (by simp [h])
      exact ⟨by rw [List.getElem?_set_ne (by omega)]; exact a, by rw [List.getElem?_set_ne (by omega)]; exact b, c, d⟩
    · rw [List.mem_singleton.mp h]
      refine ⟨?_, ?_, h0, h1⟩
      · show (M.set F.g _)[F.f]? = _
        rw [List.getElem?_set_ne (by omega)]; exact hf
      · show (M.set F.g _)[F.g]? = some ((F.ks ++ [u]).map tD)
        rw [List.getElem?_set_self hgl, List.map_append]
        rfl
  · have := e.pw
    rw [List.pairwise_append] at this ⊢
    refine ⟨this.1, List.pairwise_singleton _ _, fun a ha b hb => ?_⟩
    rw [List.mem_singleton.mp hb]
    exact e.last a ha
theorem Enc.pop {M : List (List D)} {Fs : List Fr} {F : Fr} (e : Enc M (Fs ++ [F])) : Enc (M.set 0 (Fs.map fun F => D.own F.f)) Fs := by
  have h0 := (List.getElem?_eq_some_iff.mp e.root).1
  refine ⟨by rw [List.getElem?_set_self h0], fun F' hF' => ?_, (List.pairwise_append.mp e.pw).1⟩
  obtain ⟨a, b, c, d⟩ := e.fr F' (by simp [hF'])
  exact ⟨by rw [List.getElem?_set_ne (by omega)]; exact a, by rw [List.getElem?_set_ne (by omega)]; exact b, c, d⟩
theorem Enc.push {M : List (List D)} {Fs : List Fr} (e : Enc M Fs) (k m : List Nat) : Enc ((M ++ [[wD k, wD m, .own (M.length + 1)], []]).set 0 ((Fs.map fun F => D.own F.f) ++ [.own M.length])) (Fs ++ [⟨M.length, M.length + 1, k, m, []⟩]) := by
  have h0 := (List.getElem?_eq_some_iff.mp e.root).1
  refine ⟨?_, fun F' hF' => ?_, ?_⟩
  · rw [List.getElem?_set_self (by simp), List.map_append]
    rfl
  · rcases List.mem_append.mp hF' with h | h
    · obtain ⟨a, b, c, d⟩ := e.fr F' h
      have a1 := (List.getElem?_eq_some_iff.mp a).1
      have b1 := (List.getElem?_eq_some_iff.mp b).1
      exact ⟨by rw [List.getElem?_set_ne (by omega), List.getElem?_append_left a1]; exact a, by rw [List.getElem?_set_ne (by omega), List.getElem?_append_left b1]; exact b, c, d⟩
    · rw [List.mem_singleton.mp h]
      refine ⟨?_, ?_, h0, by show M.length < M.length + 1; omega⟩
      · show (List.set _ 0 _)[M.length]? = _
        rw [List.getElem?_set_ne (by omega), List.getElem?_append_right (Nat.le_refl _), Nat.sub_self]
        rfl
      · show (List.set _ 0 _)[M.length + 1]? = some []
        rw [List.getElem?_set_ne (by omega), List.getElem?_append_right (by omega), show M.length + 1 - M.length = 1 by omega]
        rfl
  · rw [List.pairwise_append]
    refine ⟨e.pw, List.pairwise_singleton _ _, fun a ha b hb => ?_⟩
    rw [List.mem_singleton.mp hb]
    exact (List.getElem?_eq_some_iff.mp (e.fr a ha).2.1).1
section
variable {i0 : Nat} {r : Rho} {M : List (List D)} {Fs : List Fr} {F : Fr}
theorem row_at {k : Nat} {row : List D} (h : r[i0]? = some (some (.st 0 M))) (hk : M[k]? = some row) : rowAt i0 r k = .ok row := by
  unfold rowAt rowsR
  rw [h]
  dsimp only
  rw [hk]
theorem root_eq (h : r[i0]? = some (some (.st 0 M))) : wRoot i0 r = .ok 0 := by
  unfold wRoot
  rw [h]
theorem wat_eq {f : Rho → Res Nat} {fi : Rho → Res D} {k k' : Nat} {j : Int} {row : List D} (h : r[i0]? = some (some (.st 0 M))) (hf : f r = .ok k) (hi : fi r = .ok (.int j)) (hr : M[k]? = some row) (ha : atI row j = some (.own k')) : wAt i0 f fi r = .ok k' := by
  unfold wAt
  rw [hf]
  show (fi r).bind _ = _
  rw [hi]
  show (rowAt i0 r k).bind _ = _
  rw [row_at h hr]
  show (match atI row j with
    | some (.own k') => Res.ok k'
    | _ => .bad) = _
  rw [ha]
theorem wix_eq {f : Rho → Res Nat} {fi : Rho → Res D} {k : Nat} {j : Int} {row : List D} {d : D} (h : r[i0]? = some (some (.st 0 M))) (hf : f r = .ok k) (hi : fi r = .ok (.int j)) (hr : M[k]? = some row) (ha : atI row j = some d) (ho : isOwn d = false) : wIx i0 f fi r = .ok d := by
  unfold wIx
  rw [hf]
  show (fi r).bind _ = _
  rw [hi]
  show (rowAt i0 r k).bind _ = _
  rw [row_at h hr]
  show (match atI row j with
    | some d => if isOwn d = true then Res.bad else .ok d
    | _ => .bad) = _
  rw [ha]
  dsimp only
  rw [ho]
  rfl
theorem isOwn_tD (t : Tr) : isOwn (tD t) = false := by
  cases t with
  | tx l => rw [tD_tx]; rfl
  | el k m ks => rw [tD_el]; rfl
theorem wrow_eq {f : Rho → Res Nat} {k : Nat} {ks : List Tr} (h : r[i0]? = some (some (.st 0 M))) (hf : f r = .ok k) (hr : M[k]? = some (ks.map tD)) : wRow i0 f r = .ok (.lst (ks.map tD)) := by
  unfold wRow
  rw [hf]
  show (rowAt i0 r k).bind _ = _
  rw [row_at h hr]
  show (if ((ks.map tD).all fun d => !isOwn d) = true then _ else _) = _
  rw [if_pos]
  rw [List.all_map]
  exact List.all_eq_true.mpr fun t _ => by
    show (!isOwn (tD t)) = true
    rw [isOwn_tD]; rfl
theorem wlen_eq (h : r[i0]? = some (some (.st 0 M))) (e : Enc M Fs) : wLen i0 (wRoot i0) r = .ok (.int Fs.length) := by
  unfold wLen
  rw [root_eq h]
  show (rowAt i0 r 0).bind _ = _
  rw [row_at h e.root]
  show Res.ok (D.int _) = _
  rw [List.length_map]
theorem inside_eq (h : r[i0]? = some (some (.st 0 M))) (e : Enc M (Fs ++ [F])) : wAt i0 (wAt i0 (wRoot i0) (dUn negD (dC (.int 1)))) (dC (.int 2)) r = .ok F.g := by
  obtain ⟨hf, hg, h0, h1⟩ := e.fr F (by simp)
  refine wat_eq h (wat_eq h (root_eq h) rfl e.root ?_) rfl hf rfl
  rw [List.map_append]
  exact at_last _ _
theorem put_eq {k : Nat} {row : List D} (h : r[i0]? = some (some (.st 0 M))) : putRow i0 r k row = r.set i0 (some (.st 0 (M.set k row))) := by
  unfold putRow
  rw [h]
theorem ss_ali {i k : Nat} {f : Rho → Res Nat} {N B C : Rho → Prop} {R : D → Prop} {E : Rho → Str → List Str → List D → Prop} (h : f r = .ok k) (q : N (r.set i (some (.own k)))) : Ss (aliF i f r) N R B C E := by
  unfold aliF
  rw [h]
  exact q
theorem ss_wapp {k : Nat} {f : Rho → Res Nat} {fe : Rho → Res D} {row : List D} {N B C : Rho → Prop} {R : D → Prop} {E : Rho → Str → List Str → List D → Prop} (h : r[i0]? = some (some (.st 0 M))) (hf : f r = .ok k) (hr : M[k]? = some row) (hl : row.length ≤ 10000)
    (he : Rs (fe r) (fun d => isOwn d = false ∧ N (r.set i0 (some (.st 0 (M.set k (row ++ [d])))))) (E r)) : Ss (appW i0 f fe r) N R B C E := by
  unfold appW
  rw [hf]
  show Ss (liftS r (fe r) _) _ _ _ _ _
  refine ss_lift (he.impE ?_ fun _ _ _ z => z)
  rintro d ⟨ho, q⟩
  rw [row_at h hr]
  show Ss (if isOwn d = true then SR.bad else guardS _ _) _ _ _ _ _
  rw [ho, if_neg (by decide), guardS_pos (Nat.lt_of_lt_of_le (show _ < 100000 by omega) sz5), put_eq h]
  exact q
end
theorem close_eq {M : List (List D)} {Fs : List Fr} {F G : Fr} (e : Enc M (Fs ++ [F] ++ [G])) (h1 : F.ks.length ≤ 5000) (h2 : G.ks.length ≤ 5000) : ∃ M', F_l_close 0 M = .ok M' ∧ Enc M' (Fs ++ [F.put G.tree]) := by
  have key : Ss (Fb_l_close (startR 3 [.st 0 M])) (fun r => ∃ M', r[0]? = some (some (.st 0 M')) ∧ Enc M' (Fs ++ [F.put G.tree])) (fun _ => False) (fun _ => False) (fun _ => False) (fun _ _ _ _ => False) := by
    unfold Fb_l_close
    show Ss (seqF (nonF 2) (seqF (nonF 1) _) [some (.st 0 M), none, none]) _ _ _ _ _
    show Ss (seqF (popW 0 1 (wRoot 0)) _ [some (.st 0 M), none, none]) _ _ _ _ _
    obtain ⟨gf, gg, g0, g1⟩ := e.fr G (by simp)
    have e2 := e.pop
    obtain ⟨ff, fg, f0, f1⟩ := e2.fr F (by simp)
    have hlt := e.last F (by simp)
    have hroot := e.root
    rw [List.map_append] at hroot
    refine ss_seq (ss_cut (fun r => r = [some (.st 0 (M.set 0 ((Fs ++ [F]).map fun F => D.own F.f))), some (.own G.f), none]) ?_ ?_)
    · unfold popW
      rw [root_eq (r := [some (.st 0 M), none, none]) (M := M) rfl]
      show Ss (liftS _ (rowAt 0 [some (.st 0 M), none, none] 0) _) _ _ _ _ _
      rw [row_at (r := [some (.st 0 M), none, none]) (M := M) rfl hroot]
      show Ss (match (((Fs ++ [F]).map fun F => D.own F.f) ++ [D.own G.f])[(((Fs ++ [F]).map fun F => D.own F.f) ++ [D.own G.f]).length - 1]? with
        | some (.own j) => SR.nx ((putRow 0 [some (.st 0 M), none, none] 0 (((Fs ++ [F]).map fun F => D.own F.f) ++ [D.own G.f]).dropLast).set 1 (some (.own j)))
        | _ => .bad) _ _ _ _ _
      rw [show (((Fs ++ [F]).map fun F => D.own F.f) ++ [D.own G.f])[(((Fs ++ [F]).map fun F => D.own F.f) ++ [D.own G.f]).length - 1]? = some (D.own G.f) from by simp, List.dropLast_concat]
      rfl
    rintro _ rfl
    refine ss_seq (ss_ali (inside_eq rfl e2) ?_)
    have gf2 : (M.set 0 ((Fs ++ [F]).map fun F => D.own F.f))[G.f]? = some [wD G.k, wD G.m, .own G.g] := by rw [List.getElem?_set_ne (by omega)]; exact gf
    have gg2 : (M.set 0 ((Fs ++ [F]).map fun F => D.own F.f))[G.g]? = some (G.ks.map tD) := by rw [List.getElem?_set_ne (by omega)]; exact gg
    refine ss_wapp (M := M.set 0 ((Fs ++ [F]).map fun F => D.own F.f)) rfl (k := F.g) rfl fg (by rw [List.length_map]; omega) ?_
    refine rs_tup (rs_cons (Rs.of (wix_eq (M := M.set 0 ((Fs ++ [F]).map fun F => D.own F.f)) rfl rfl rfl gf2 (atI_nat (j := 0) rfl) rfl) (rs_cons (Rs.of (wix_eq (M := M.set 0 ((Fs ++ [F]).map fun F => D.own F.f)) rfl rfl rfl gf2 (atI_nat (j := 1) rfl) rfl) ?_))))
    refine rs_cons (rs_call (rs_cons (Rs.of (wrow_eq (M := M.set 0 ((Fs ++ [F]).map fun F => D.own F.f)) rfl (wat_eq (M := M.set 0 ((Fs ++ [F]).map fun F => D.own F.f)) rfl rfl rfl gf2 (atI_nat (j := 2) rfl)) gg2) (rs_nil (rs_tupL (rs_nil ?_))))))
    refine ⟨Nat.le_of_ble_eq_true rfl, rfl, _, rfl, ?_⟩
    have := e2.app G.tree
    rw [show tD G.tree = .tup [wD G.k, wD G.m, .tup (G.ks.map tD)] from tD_el _ _ _] at this
    exact this
  unfold F_l_close runS
  cases hx : Fb_l_close (startR 3 [.st 0 M]) with
  | nx r =>
    rw [hx] at key
    obtain ⟨M', h, q⟩ := key
    refine ⟨M', ?_, q⟩
    dsimp only
    rw [h]
  | rt d => rw [hx] at key; exact key.elim
  | bk r => rw [hx] at key; exact key.elim
  | ct r => rw [hx] at key; exact key.elim
  | bad => rw [hx] at key; exact key.elim
  | er r n ns vs => rw [hx] at key; exact key.elim
end
section
def LT : List Int := [60, 6, 12] ++ (List.replicate 59 [8, 30, 12]).flatten
theorem LT_pos : ∀ l ∈ LT, 0 < l ∧ l < 4611686018427387904 := by
  intro l hl
  have h : l = 60 ∨ l = 6 ∨ l = 12 ∨ l = 8 ∨ l = 30 := by
    rcases List.mem_append.mp hl with h | h
    · simp at h; omega
    · obtain ⟨x, hx, h⟩ := List.mem_flatten.mp h
      rw [(List.mem_replicate.mp hx).2] at h
      simp at h; omega
  omega
theorem LT_at : ∀ k < 59, (LT.take (3 * k + 6)).drop (3 * k + 3) = [8, 30, 12] := by decide +kernel
theorem pick_sp {r : Rho} {a b : Nat} {v : Int} {ws : List (List Nat)} {Q : D → Prop} {E : Str → List Str → List D → Prop} (ha : r[a]? = some (some (.lst (ws.map wD)))) (hb : r[b]? = some (some (.int v))) (hw : 0 < ws.length) (q : ∀ w, Q (wD w)) :
    Rs (dOp ixD (dVar a) (dOp modD (dCall (g1 intD) (dCons (dVar b) dNil)) (dCall (g1 lenD) (dCons (dVar a) dNil))) r) Q E := by
  refine rs_op (rs_var ha (rs_op (rs_call (rs_cons (rs_var hb (rs_nil (rs_int (rs_call (rs_cons (rs_var ha (rs_nil (rs_lenL ?_))))))))))))
  rw [List.length_map]
  refine rs_mod (by omega) ?_
  have h0 : 0 ≤ v % (ws.length : Int) := Int.emod_nonneg _ (by omega)
  have h1 : v % (ws.length : Int) < ws.length := Int.emod_lt_of_pos _ (by omega)
  have hlt : (v % (ws.length : Int)).toNat < ws.length := by omega
  exact rs_ixL (d := wD ws[(v % (ws.length : Int)).toNat]) (at_pos h0 (by rw [List.getElem?_map, List.getElem?_eq_getElem hlt]; rfl)) (q _)
theorem snoc_of {α : Type} {l : List α} (h : l ≠ []) : ∃ a b, l = a ++ [b] := ⟨l.dropLast, l.getLast h, (List.dropLast_concat_getLast h).symm⟩
theorem ss_cls {i0 : Nat} {r : Rho} {M M' : List (List D)} {F : Nat → List (List D) → Res (List (List D))} {N B C : Rho → Prop} {R : D → Prop} {E : Rho → Str → List Str → List D → Prop} (h : r[i0]? = some (some (.st 0 M))) (hf : F 0 M = .ok M') (q : N (r.set i0 (some (.st 0 M')))) : Ss (clsF i0 F r) N R B C E := by
  unfold clsF
  rw [h]
  dsimp only
  rw [hf]
  exact q
theorem close_tot {M : List (List D)} {Fs : List Fr} (e : Enc M Fs) (h : 1 < Fs.length) (hs : tot Fs ≤ 1000) : ∃ M' Fs', F_l_close 0 M = .ok M' ∧ Enc M' Fs' ∧ Fs'.length + 1 = Fs.length ∧ tot Fs' = tot Fs := by
  obtain ⟨A, G, rfl⟩ := snoc_of (l := Fs) (fun z => by rw [z] at h; simp at h)
  obtain ⟨B, F, rfl⟩ := snoc_of (l := A) (fun z => by rw [z] at h; simp at h)
  rw [tot_app, tot_app, tot_one, tot_one] at hs
  have l1 := len_szs F.ks
  have l2 := len_szs G.ks
  obtain ⟨M', h1, h2⟩ := close_eq e (by omega) (by omega)
  refine ⟨M', _, h1, h2, by simp, ?_⟩
  rw [tot_app, tot_app, tot_app, tot_one, tot_one, tot_one]
  show tot B + (1 + szs (F.ks ++ [G.tree])) = _
  rw [szs_app]
  have : szs [G.tree] = 1 + szs G.ks := by
    rw [szs_sum, List.map_singleton, List.sum_singleton]
    unfold Fr.tree
    rw [sz_el]
  omega
section
variable {i0 : Nat} {r : Rho} {M : List (List D)} {Fs : List Fr} {F : Fr}
theorem ss_push {f1 f2 : Rho → Res D} {k m : List Nat} {N B C : Rho → Prop} {R : D → Prop} {E : Rho → Str → List Str → List D → Prop} (h : r[i0]? = some (some (.st 0 M))) (hi : i0 < r.length) (e : Enc M Fs) (hl : Fs.length ≤ 10000) (h1 : f1 r = .ok (wD k)) (h2 : f2 r = .ok (wD m))
    (q : ∀ M' Fs', Enc M' Fs' → Fs' ≠ [] → tot Fs' = tot Fs + 1 → N (r.set i0 (some (.st 0 M')))) : Ss (appWN i0 (wRoot i0) (lit3 f1 f2) r) N R B C E := by
  unfold appWN
  rw [root_eq h]
  show Ss (liftS r (lit3 f1 f2 r) _) _ _ _ _ _
  have el : lit3 f1 f2 r = .ok (.st 0 [[wD k, wD m, .own 1], []]) := by
    unfold lit3
    rw [h1]
    show (f2 r).bind _ = _
    rw [h2]
    rfl
  rw [el]
  show Ss (liftS r (rowAt i0 r 0) _) _ _ _ _ _
  rw [row_at h e.root]
  show Ss (guardS _ _) _ _ _ _ _
  rw [guardS_pos (Nat.lt_of_lt_of_le (show _ < 100000 by rw [List.length_map]; omega) sz5)]
  have er : rowsR i0 r = M := by unfold rowsR; rw [h]
  have eg : growR i0 r [[wD k, wD m, .own 1], []] = r.set i0 (some (.st 0 (M ++ [[wD k, wD m, .own (M.length + 1)], []]))) := by
    unfold growR
    rw [h]
    rfl
  rw [er, eg, put_eq (M := M ++ [[wD k, wD m, .own (M.length + 1)], []]) (by rw [List.getElem?_set_self hi]), List.set_set]
  refine q _ _ (e.push k m) (by simp) ?_
  rw [tot_app, tot_one]
  rfl
end
/-- the body's state -/
def TS (c : Int) (kn mk tx : List (List Nat)) (vs : List Int) (mn : List (List Nat)) (M : List (List D)) (mv : Int) (x10 x11 x12 x13 x14 x15 x16 x17 : Option D) : Rho := [some (.int c), some (.int 59), some (.int 12), some (.lst (kn.map wD)), some (.lst (mk.map wD)), some (.lst (tx.map wD)), some (iL vs), some (.lst (mn.map wD)), some (.st 0 M), some (.int mv), x10, x11, x12, x13, x14, x15, x16, x17]
theorem tree_body (c : Int) (kn mk tx : List (List Nat)) (hk : 0 < kn.length) (hm : 0 < mk.length) {vs : List Int} (hf : Fit vs LT) {mn : List (List Nat)} (hn : 0 < mn.length) {M : List (List D)} {Fs : List Fr} (e : Enc M Fs) (hne : Fs ≠ []) {mv : Int} {k : Nat} (hk59 : k < 59) (ht : tot Fs ≤ k + 1) (x11 x12 x13 x14 x15 x16 x17 : Option D) :
    Ss (Lp_l_tree_1 (TS c kn mk tx vs mn M mv (some (.int (k : Int))) x11 x12 x13 x14 x15 x16 x17)) (fun r => ∃ mn M Fs x10 x11 x12 x13 x14 x15 x16 x17, r = TS c kn mk tx vs mn M mv x10 x11 x12 x13 x14 x15 x16 x17 ∧ 0 < mn.length ∧ Enc M Fs ∧ Fs ≠ [] ∧ tot Fs ≤ k + 1 + 1) (fun _ => False) (fun _ => False) (fun _ => False) nE' := by
  have hvl : vs.length = 180 := hf.len
  unfold Lp_l_tree_1
  obtain ⟨v0, us, e0, a0, b0, h⟩ := Fit.cons (l := 8) (ls := [30, 12]) (vs := (vs.take (3 * k + 6)).drop (3 * k + 3)) (by rw [← LT_at k hk59]; exact fit_drop2 _ (fit_take2 _ hf))
  obtain ⟨v1, us, rfl, a1, b1, h⟩ := h.cons
  obtain ⟨v2, us, rfl, a2, b2, h⟩ := h.cons
  cases h.nil
  refine ss_seq (ss_asg (rs_sl (rs_var rfl (rs_part (rs_op (rs_op (rs_c (rs_var rfl (rs_mul (Or.inl (small_of (by omega) (by omega))) (rs_c (rs_add (rs_asI ?_))))))))))))
  refine rs_part (rs_op (rs_op (rs_c (rs_var rfl (rs_mul (Or.inl (small_of (by omega) (by omega))) (rs_c (rs_add (rs_asI ?_))))))))
  rw [show (3 * (k : Int) + 3) = ((3 * k + 3 : Nat) : Int) by omega, show (3 * (k : Int) + 6) = ((3 * k + 6 : Nat) : Int) by omega]
  refine rs_slL ?_
  rw [cut_mid, ← List.map_take, ← List.map_drop, e0]
  refine ⟨TS c kn mk tx vs mn M mv (some (.int (k : Int))) (some (.int v0)) (some (.int v1)) (some (.int v2)) x14 x15 x16 x17, rfl, ?_⟩
  refine ss_seq (ss_set (pick_sp (ws := kn) rfl rfl hk fun kw => ?_))
  refine ss_seq (ss_set (pick_sp (ws := mk) rfl rfl hm fun mw => ?_))
  show Ss (seqF _ _ (TS c kn mk tx vs mn M mv (some (.int (k : Int))) (some (.int v0)) (some (.int v1)) (some (.int v2)) (some (wD kw)) (some (wD mw)) x16 x17)) _ _ _ _ _
  have i1 : LT[1]? = some 6 := rfl
  refine ss_seq (ss_cut (fun r => ∃ w : Int, 0 ≤ w ∧ w < 8 ∧ r = TS c kn mk tx vs mn M mv (some (.int (k : Int))) (some (.int w)) (some (.int v1)) (some (.int v2)) (some (wD kw)) (some (wD mw)) x16 x17) ?_ ?_)
  · refine ss_ifa (rs_T (rs_op (rs_op (rs_var rfl (rs_c (ix_row (k := 1) hf i1 rfl fun w1 _ _ _ => rs_c (rs_eqI (rs_asB ⟨fun _ => ?_, fun _ => ss_nx ⟨v0, a0, b0, rfl⟩⟩))))))))
    refine ss_if (rs_T (rs_op (rs_var rfl (rs_op (rs_var rfl (rs_c (rs_sub (rs_lt (rs_asB ⟨fun _ => ?_, fun _ => ss_nx ⟨v0, a0, b0, rfl⟩⟩)))))))))
    exact ss_set (rs_c ⟨7, by omega, by omega, rfl⟩)
  rintro _ ⟨w, a0, b0, rfl⟩
  refine ss_seq (ss_cut (fun r => ∃ w : Int, 0 ≤ w ∧ w < 8 ∧ r = TS c kn mk tx vs mn M mv (some (.int (k : Int))) (some (.int w)) (some (.int v1)) (some (.int v2)) (some (wD kw)) (some (wD mw)) x16 x17) ?_ ?_)
  · refine ss_if (rs_T (rs_op (rs_op (rs_var rfl (rs_c (ix_row (k := 1) hf i1 rfl fun w1 _ _ _ => rs_c (rs_eqI (rs_asB ⟨fun _ => ?_, fun _ => ss_nx ⟨w, a0, b0, rfl⟩⟩))))))))
    refine ss_set (rs_op (rs_c (rs_op (rs_call (rs_cons (rs_var rfl (rs_nil (rs_int (rs_c (rs_mod (by omega) (rs_add ?_)))))))))))
    exact ⟨2 + w % 4, by omega, by omega, rfl⟩
  rintro _ ⟨w, a0, b0, rfl⟩
  refine ss_seq (ss_cut (fun r => ∃ w : Int, 0 ≤ w ∧ w < 8 ∧ r = TS c kn mk tx vs mn M mv (some (.int (k : Int))) (some (.int w)) (some (.int v1)) (some (.int v2)) (some (wD kw)) (some (wD mw)) x16 x17) ?_ ?_)
  · refine ss_if (rs_T (rs_op (rs_op (rs_var rfl (rs_c (ix_row (k := 1) hf i1 rfl fun w1 _ _ _ => rs_c (rs_eqI (rs_asB ⟨fun _ => ?_, fun _ => ss_nx ⟨w, a0, b0, rfl⟩⟩))))))))
    refine ss_set (rs_op (rs_c (rs_op (rs_call (rs_cons (rs_var rfl (rs_nil (rs_int (rs_c (rs_mod (by omega) (rs_add ?_)))))))))))
    exact ⟨4 + w % 4, by omega, by omega, rfl⟩
  rintro _ ⟨w, a0, b0, rfl⟩
  obtain ⟨A, F, rfl⟩ := snoc_of hne
  obtain ⟨hff, hfg, hf0, hf1⟩ := e.fr F (by simp)
  refine ss_seq (ss_ali (inside_eq (M := M) rfl e) ?_)
  show Ss (ifF _ _ _ (TS c kn mk tx vs mn M mv (some (.int (k : Int))) (some (.int w)) (some (.int v1)) (some (.int v2)) (some (wD kw)) (some (wD mw)) (some (.own F.g)) x17)) _ _ _ _ _
  have hlen := tot_len (A ++ [F])
  have hkl := len_szs F.ks
  have htf : tot (A ++ [F]) = tot A + (1 + szs F.ks) := by rw [tot_app, tot_one]
  have htp : ∀ u : Tr, tot (A ++ [F.put u]) = tot (A ++ [F]) + sz u := fun u => by
    rw [htf, tot_app, tot_one]
    show tot A + (1 + szs (F.ks ++ [u])) = _
    rw [szs_app, szs_sum [u], List.map_singleton, List.sum_singleton]
    omega
  have goon : ∀ {mn M Fs x10 x11 x12 x13 x14 x15 x16 x17}, 0 < mn.length → Enc M Fs → Fs ≠ [] → tot Fs ≤ k + 1 + 1 → ∃ mn' M' Fs' y10 y11 y12 y13 y14 y15 y16 y17, TS c kn mk tx vs mn M mv x10 x11 x12 x13 x14 x15 x16 x17 = TS c kn mk tx vs mn' M' mv y10 y11 y12 y13 y14 y15 y16 y17 ∧ 0 < mn'.length ∧ Enc M' Fs' ∧ Fs' ≠ [] ∧ tot Fs' ≤ k + 1 + 1 := fun {mn M Fs x10 x11 x12 x13 x14 x15 x16 x17} h1 h2 h3 h4 => ⟨mn, M, Fs, x10, x11, x12, x13, x14, x15, x16, x17, rfl, h1, h2, h3, h4⟩
  have bulk : Ss (ifF (dT (dOp ltD (dVar 11) (dC (.int 4)))) (ifF (dOr (dT (dOp eqD (dCall (g1 lenD) (dCons (wRow 8 (wVar 16)) dNil)) (dC (.int 0)))) (dNot (dT (dUn (isiD "str") (dOp ixD (wRow 8 (wVar 16)) (dUn negD (dC (.int 1)))))))) (seqF (setF 17 (dOp modD (dCall (g1 intD) (dCons (dVar 12) dNil)) (dCall (g1 lenD) (dCons (dVar 7) dNil)))) (seqF (appW 8 (wVar 16) (dOp ixD (dVar 7) (dVar 17))) (ifF (dT (dOp eqD (dVar 17) (dOp subD (dCall (g1 lenD) (dCons (dVar 7) dNil)) (dC (.int 1))))) (stoF 7 (dVar 17) (dOp ixD (dVar 7) (dC (.int 0)))) .nx))) .nx) (ifF (dOr (dT (dOp ltD (dVar 11) (dC (.int 6)))) (dT (dOp geD (wLen 8 (wRoot 8)) (dVar 2)))) (appW 8 (wVar 16) (dTup (dCons (dVar 14) (dCons (dVar 15) (dCons (dTup dNil) dNil))))) (appWN 8 (wRoot 8) (lit3 (dVar 14) (dVar 15)))) (TS c kn mk tx vs mn M mv (some (.int (k : Int))) (some (.int w)) (some (.int v1)) (some (.int v2)) (some (wD kw)) (some (wD mw)) (some (.own F.g)) x17)) (fun r => ∃ mn M Fs x10 x11 x12 x13 x14 x15 x16 x17, r = TS c kn mk tx vs mn M mv x10 x11 x12 x13 x14 x15 x16 x17 ∧ 0 < mn.length ∧ Enc M Fs ∧ Fs ≠ [] ∧ tot Fs ≤ k + 1 + 1) (fun _ => False) (fun _ => False) (fun _ => False) nE' := by
    refine ss_if (rs_T (rs_op (rs_var rfl (rs_c (rs_lt (rs_asB ⟨fun _ => ?_, fun _ => ?_⟩))))))
    · have htext : Ss (seqF (setF 17 (dOp modD (dCall (g1 intD) (dCons (dVar 12) dNil)) (dCall (g1 lenD) (dCons (dVar 7) dNil)))) (seqF (appW 8 (wVar 16) (dOp ixD (dVar 7) (dVar 17))) (ifF (dT (dOp eqD (dVar 17) (dOp subD (dCall (g1 lenD) (dCons (dVar 7) dNil)) (dC (.int 1))))) (stoF 7 (dVar 17) (dOp ixD (dVar 7) (dC (.int 0)))) .nx)) (TS c kn mk tx vs mn M mv (some (.int (k : Int))) (some (.int w)) (some (.int v1)) (some (.int v2)) (some (wD kw)) (some (wD mw)) (some (.own F.g)) x17)) (fun r => ∃ mn M Fs x10 x11 x12 x13 x14 x15 x16 x17, r = TS c kn mk tx vs mn M mv x10 x11 x12 x13 x14 x15 x16 x17 ∧ 0 < mn.length ∧ Enc M Fs ∧ Fs ≠ [] ∧ tot Fs ≤ k + 1 + 1) (fun _ => False) (fun _ => False) (fun _ => False) nE' := by
        refine ss_seq (ss_set (rs_op (rs_call (rs_cons (rs_var rfl (rs_nil (rs_int (rs_call (rs_cons (rs_var rfl (rs_nil (rs_lenL ?_))))))))))))
        rw [List.length_map]
        refine rs_mod (by omega) ?_
        have h0 : 0 ≤ v1 % (mn.length : Int) := Int.emod_nonneg _ (by omega)
        have h1 : v1 % (mn.length : Int) < mn.length := Int.emod_lt_of_pos _ (by omega)
        obtain ⟨at0, hat⟩ := Int.eq_ofNat_of_zero_le h0
        rw [hat] at h1 ⊢
        have hlt : at0 < mn.length := by omega
        show Ss (seqF _ _ (TS c kn mk tx vs mn M mv (some (.int (k : Int))) (some (.int w)) (some (.int v1)) (some (.int v2)) (some (wD kw)) (some (wD mw)) (some (.own F.g)) (some (.int (at0 : Int))))) _ _ _ _ _
        refine ss_seq (ss_wapp (M := M) rfl (k := F.g) rfl hfg (by rw [List.length_map]; omega) (rs_op (rs_var rfl (rs_var rfl (rs_ixL (d := wD mn[at0]) (atI_nat (by rw [List.getElem?_map, List.getElem?_eq_getElem hlt]; rfl)) ⟨rfl, ?_⟩)))))
        have e2 := e.app (.tx mn[at0])
        have ht2 : tot (A ++ [F.put (.tx mn[at0])]) ≤ k + 1 + 1 := by rw [htp, sz]; omega
        rw [tD_tx] at e2
        show Ss (ifF _ _ _ (TS c kn mk tx vs mn (M.set F.g (F.ks.map tD ++ [.str (Sg mn[at0])])) mv (some (.int (k : Int))) (some (.int w)) (some (.int v1)) (some (.int v2)) (some (wD kw)) (some (wD mw)) (some (.own F.g)) (some (.int (at0 : Int))))) _ _ _ _ _
        refine ss_if (rs_T (rs_op (rs_var rfl (rs_op (rs_call (rs_cons (rs_var rfl (rs_nil (rs_lenL (rs_c (rs_sub (rs_eqI (rs_asB ⟨fun _ => ?_, fun _ => ss_nx (goon hn e2 (by simp) ht2)⟩)))))))))))))
        refine ss_sto (n := at0) (k := (at0 : Int)) (ds := mn.map wD) (rs_op (rs_var rfl (rs_c (rs_ixL (d := wD mn[0]) (atI_nat (j := 0) (by rw [List.getElem?_map, List.getElem?_eq_getElem hn]; rfl)) ⟨rfl, rs_var rfl ⟨rfl, by rw [List.length_map]; exact ixN_nat hlt, ?_⟩⟩))))
        rw [← List.map_set]
        exact goon (mn := mn.set at0 mn[0]) (by rw [List.length_set]; exact hn) e2 (by simp) ht2
      have hw : ∀ {Q : D → Prop} {E : Str → List Str → List D → Prop}, Q (.lst (F.ks.map tD)) → Rs (wRow 8 (wVar 16) (TS c kn mk tx vs mn M mv (some (.int (k : Int))) (some (.int w)) (some (.int v1)) (some (.int v2)) (some (wD kw)) (some (wD mw)) (some (.own F.g)) x17)) Q E := fun q => Rs.of (wrow_eq (M := M) rfl rfl hfg) q
      refine ss_ifo (rs_T (rs_op (rs_call (rs_cons (hw (rs_nil (rs_lenL (rs_c (rs_eqI (rs_asB ⟨fun _ => htext, fun z => ?_⟩))))))))))
      have z := of_decide_eq_false z
      have hks : F.ks ≠ [] := fun q => z (by rw [q]; rfl)
      obtain ⟨ks', u, hku⟩ := snoc_of hks
      refine ss_if (rs_not (rs_T (rs_un (rs_op (hw (rs_un (rs_c (rs_neg ?_))))))))
      refine rs_ixL (d := tD u) (by rw [hku, List.map_append]; exact at_last _ _) ?_
      have hend := goon (x10 := some (.int (k : Int))) (x11 := some (.int w)) (x12 := some (.int v1)) (x13 := some (.int v2)) (x14 := some (wD kw)) (x15 := some (wD mw)) (x16 := some (.own F.g)) (x17 := x17) hn e hne (by omega)
      cases u with
      | tx l =>
        rw [tD_tx]
        array_get_dec
        exact ⟨fun z => (by cases z), fun _ => hend⟩
      | el k2 m2 ks2 =>
        rw [tD_el]
        array_get_dec
        exact ⟨fun _ => htext, fun z => (by cases z)⟩
    · have hleaf : Ss (appW 8 (wVar 16) (dTup (dCons (dVar 14) (dCons (dVar 15) (dCons (dTup dNil) dNil)))) (TS c kn mk tx vs mn M mv (some (.int (k : Int))) (some (.int w)) (some (.int v1)) (some (.int v2)) (some (wD kw)) (some (wD mw)) (some (.own F.g)) x17)) (fun r => ∃ mn M Fs x10 x11 x12 x13 x14 x15 x16 x17, r = TS c kn mk tx vs mn M mv x10 x11 x12 x13 x14 x15 x16 x17 ∧ 0 < mn.length ∧ Enc M Fs ∧ Fs ≠ [] ∧ tot Fs ≤ k + 1 + 1) (fun _ => False) (fun _ => False) (fun _ => False) nE' := by
        refine ss_wapp (M := M) rfl (k := F.g) rfl hfg (by rw [List.length_map]; omega) (rs_tup (rs_cons (rs_var rfl (rs_cons (rs_var rfl (rs_cons (rs_tup (rs_nil ⟨Nat.zero_le _, rs_nil ⟨Nat.le_of_ble_eq_true rfl, rfl, ?_⟩⟩))))))))
        have e2 := e.app (.el (wD kw) (wD mw) [])
        rw [tD_el] at e2
        exact goon hn e2 (by simp) (by rw [htp, sz_el, szs_sum]; simp; omega)
      refine ss_ifo (rs_T (rs_op (rs_var rfl (rs_c (rs_lt (rs_asB ⟨fun _ => hleaf, fun _ => ?_⟩))))))
      refine ss_if (rs_T (rs_op (Rs.of (wlen_eq (M := M) rfl e) (rs_var rfl (rs_ge (rs_asB ⟨fun _ => hleaf, fun _ => ?_⟩))))))
      refine ss_push (M := M) rfl (by show 8 < 18; omega) e (by omega) rfl rfl fun M' Fs' h1 h2 h3 => ?_
      exact goon hn h1 h2 (by omega)
  refine ss_ifa (rs_T (rs_op (rs_var rfl (rs_c (rs_lt (rs_asB ⟨fun _ => ?_, fun _ => bulk⟩))))))
  refine ss_if (rs_T (rs_op (Rs.of (wlen_eq (M := M) rfl e) (rs_c (rs_gt (rs_asB ⟨fun z => ?_, fun _ => bulk⟩))))))
  have z := of_decide_eq_true z
  obtain ⟨M', Fs', h1, h2, h3, h4⟩ := close_tot e (by omega) (by omega)
  refine ss_cls (M := M) rfl h1 (goon hn h2 (fun q => ?_) (by omega))
  rw [q, List.length_nil] at h3
  omega
theorem tree_sp (c : Int) (kn mk tx : List (List Nat)) (hk : 0 < kn.length) (hm : 0 < mk.length) (hx : 0 < tx.length) : Rs (F_l_tree [.int c, .int 59, .int 12, .lst (kn.map wD), .lst (mk.map wD), .lst (tx.map wD)]) (fun d => ∃ t, d = tD t ∧ isTx t = false ∧ sz t ≤ 5000) nE := by
  refine rs_run ?_
  unfold Fb_l_tree
  show Ss (seqF _ _ [some (.int c), some (.int 59), some (.int 12), some (.lst (kn.map wD)), some (.lst (mk.map wD)), some (.lst (tx.map wD)), none, none, none, none, none, none, none, none, none, none, none, none]) _ _ _ _ _
  refine ss_seq (ss_set (rs_call (rs_cons (rs_var rfl (rs_cons (rs_op (rs_lst (rs_cons (rs_op (rs_var rfl (rs_c (rs_add (rs_cons (rs_c (rs_cons (rs_c (rs_nil ⟨Nat.le_of_ble_eq_true rfl, ?_⟩)))))))))))))))))
  refine rs_op (rs_lst (rs_cons (rs_c (rs_cons (rs_c (rs_cons (rs_c (rs_nil ⟨Nat.le_of_ble_eq_true rfl, rs_var rfl ?_⟩))))))))
  refine rs_mulL ⟨by decide, by decide, Nat.le_of_ble_eq_true rfl⟩ ?_
  refine rs_addLL (Nat.le_of_ble_eq_true rfl) (rs_nil ?_)
  show Rs (F_l_row [.int c, iL LT]) _ _
  refine row_of c LT LT_pos (show LT.length < 10000 from Nat.le_of_ble_eq_true rfl) fun vs hf => ?_
  have i0 : LT[0]? = some 60 := rfl
  have i1 : LT[1]? = some 6 := rfl
  have i2 : LT[2]? = some 12 := rfl
  refine ss_seq (ss_set (rs_call (rs_cons (rs_var rfl (rs_nil (rs_listL ?_))))))
  refine ss_seq (ss_cut (fun r => ∃ kw mw, r = [some (.int c), some (.int 59), some (.int 12), some (.lst (kn.map wD)), some (.lst (mk.map wD)), some (.lst (tx.map wD)), some (iL vs), some (.lst (tx.map wD)), some (.st 0 [[.own 1], [wD kw, wD mw, .own 2], []]), none, none, none, none, none, none, none, none, none]) ?_ ?_)
  · refine ss_set ?_
    show Rs ((dOp ixD (dVar 3) (dC (.int 0)) _).bind _) _ _
    refine Rs.bind (rs_op (rs_var rfl (rs_c (rs_ixL (d := wD kn[0]) (atI_nat (j := 0) (by rw [List.getElem?_map, List.getElem?_eq_getElem hk]; rfl)) ?_))))
    refine Rs.bind (rs_op (rs_var rfl (rs_op (rs_call (rs_cons (rs_op (rs_var rfl (rs_c (ix_row (k := 2) hf i2 rfl fun v _ h0 h1 => ?_)))))))))
    refine rs_nil (rs_int (rs_call (rs_cons (rs_var rfl (rs_nil (rs_lenL ?_))))))
    rw [List.length_map]
    refine rs_mod (by omega) ?_
    have h2 : 0 ≤ v % (mk.length : Int) := Int.emod_nonneg _ (by omega)
    have h3 : v % (mk.length : Int) < mk.length := Int.emod_lt_of_pos _ (by omega)
    have hlt : (v % (mk.length : Int)).toNat < mk.length := by omega
    refine rs_ixL (d := wD mk[(v % (mk.length : Int)).toNat]) (at_pos h2 (by rw [List.getElem?_map, List.getElem?_eq_getElem hlt]; rfl)) ?_
    exact ⟨_, _, rfl⟩
  rintro _ ⟨kw, mw, rfl⟩
  show Ss (seqF _ _ [some (.int c), some (.int 59), some (.int 12), some (.lst (kn.map wD)), some (.lst (mk.map wD)), some (.lst (tx.map wD)), some (iL vs), some (.lst (tx.map wD)), some (.st 0 [[.own 1], [wD kw, wD mw, .own 2], []]), none, none, none, none, none, none, none, none, none]) _ _ _ _ _
  have e0 : Enc [[.own 1], [wD kw, wD mw, .own 2], []] [⟨1, 2, kw, mw, []⟩] := ⟨rfl, fun F hF => by
    rw [List.mem_singleton.mp hF]
    exact ⟨rfl, rfl, Nat.lt_of_sub_eq_succ rfl, Nat.lt_of_sub_eq_succ rfl⟩, List.pairwise_singleton _ _⟩
  refine ss_seq (show Ss (SR.nx _) _ _ _ _ _ from ?_)
  refine ss_seq (ss_set (rs_op (rs_var rfl (rs_c (ix_row (k := 0) hf i0 rfl fun v0 _ a0 b0 => ?_)))))
  show Ss (seqF _ _ (TS c kn mk tx vs tx [[.own 1], [wD kw, wD mw, .own 2], []] v0 none none none none none none none none)) _ _ _ _ _
  refine ss_seq (ss_cut (fun r => ∃ n : Nat, n ≤ 59 ∧ r = TS c kn mk tx vs tx [[.own 1], [wD kw, wD mw, .own 2], []] (n : Int) none none none none none none none none) ?_ ?_)
  · obtain ⟨n, rfl⟩ := Int.eq_ofNat_of_zero_le a0
    refine ss_if (rs_T (rs_op (rs_op (rs_var rfl (rs_c (ix_row (k := 1) hf i1 rfl fun w1 _ _ _ => rs_c (rs_eqI (rs_asB ⟨fun _ => ?_, fun _ => ss_nx ⟨n, by omega, rfl⟩⟩))))))))
    exact ss_set (rs_var rfl ⟨59, by omega, rfl⟩)
  rintro _ ⟨n, hn, rfl⟩
  refine ss_seq (ss_rng n (fun k r => ∃ mn M Fs x10 x11 x12 x13 x14 x15 x16 x17, r = TS c kn mk tx vs mn M (n : Int) x10 x11 x12 x13 x14 x15 x16 x17 ∧ 0 < mn.length ∧ Enc M Fs ∧ Fs ≠ [] ∧ tot Fs ≤ k + 1) (rs_var rfl rfl) (by omega) ⟨tx, _, _, none, none, none, none, none, none, none, none, rfl, hx, e0, by simp, by rw [tot_one, szs_sum]; simp⟩ ?_ ?_)
  · rintro k r hkn ⟨mn, M, Fs, x10, x11, x12, x13, x14, x15, x16, x17, rfl, h1, h2, h3, h4⟩
    exact (tree_body c kn mk tx hk hm hf (mv := (n : Int)) h1 h2 h3 (by omega) h4 x11 x12 x13 x14 x15 x16 x17).imp (fun _ z => z) (fun _ z => z.elim) (fun _ z => z.elim) (fun _ z => z.elim) fun _ _ _ _ z => z.elim
  rintro r ⟨mn, M, Fs, x10, x11, x12, x13, x14, x15, x16, x17, rfl, h1, h2, h3, h4⟩
  have hpos : 0 < Fs.length := List.length_pos_iff.mpr h3
  have hll := tot_len Fs
  refine ss_seq (ss_rng (Fs.length - 1) (fun k r => ∃ mn M Gs x10 x11 x12 x13 x14 x15 x16 x17, r = TS c kn mk tx vs mn M (n : Int) x10 x11 x12 x13 x14 x15 x16 x17 ∧ Enc M Gs ∧ Gs.length + k = Fs.length ∧ tot Gs = tot Fs) (rs_op (Rs.of (wlen_eq (M := M) rfl h2) (rs_c (rs_sub (by congr 1; omega))))) (by omega) ⟨mn, M, Fs, x10, x11, x12, x13, x14, x15, x16, x17, rfl, h2, rfl, rfl⟩ ?_ ?_)
  · rintro k r hkn ⟨mn, M, Gs, x10, x11, x12, x13, x14, x15, x16, x17, rfl, g2, g3, g4⟩
    obtain ⟨M', Gs', q1, q2, q3, q4⟩ := close_tot g2 (by omega) (by omega)
    unfold Lp_l_tree_2
    exact ss_cls (M := M) rfl q1 ⟨mn, M', Gs', some (.int (k : Int)), x11, x12, x13, x14, x15, x16, x17, rfl, q2, by omega, by omega⟩
  rintro r ⟨mn, M, Gs, x10, x11, x12, x13, x14, x15, x16, x17, rfl, g2, g3, g4⟩
  have hG : Gs.length = 1 := by omega
  obtain ⟨G, rfl⟩ := List.length_eq_one_iff.mp hG
  obtain ⟨gf, gg, _, _⟩ := g2.fr G (by simp)
  have hsz : sz G.tree ≤ 5000 := by
    have : tot [G] = sz G.tree := by unfold tot; simp
    omega
  refine ss_ret ?_
  generalize hr : TS c kn mk tx vs mn M (n : Int) x10 x11 x12 x13 x14 x15 x16 x17 = r
  have h8 : r[8]? = some (some (.st 0 M)) := by rw [← hr]; rfl
  have a0 : wAt 8 (wRoot 8) (dC (.int 0)) r = .ok G.f := wat_eq h8 (root_eq h8) rfl g2.root (atI_nat (j := 0) rfl)
  refine rs_tup (rs_cons (Rs.of (wix_eq h8 a0 rfl gf (atI_nat (j := 0) rfl) rfl) (rs_cons (Rs.of (wix_eq h8 a0 rfl gf (atI_nat (j := 1) rfl) rfl) ?_))))
  refine rs_cons (rs_call (rs_cons (Rs.of (wrow_eq h8 (wat_eq h8 a0 rfl gf (atI_nat (j := 2) rfl)) gg) (rs_nil (rs_tupL (rs_nil ?_))))))
  exact ⟨Nat.le_of_ble_eq_true rfl, G.tree, (tD_el _ _ _).symm, rfl, hsz⟩
end
section
theorem law_true (ns : List Int) (hl : ns.length ≤ 63) : F_law [.fz (ns.map D.int)] = .ok (.bl true) := Rs.eq (by
  have cell : ∀ (k : Nat) {Q : D → Prop} {E : Str → List Str → List D → Prop}, k ≤ 1000 → (∀ z, Q (.int z)) → Rs (F_l_cell [.fz (ns.map D.int), .int (k : Int)]) Q E := fun k {Q E} hk q => (cell_sp ns hl k hk).impE (fun d ⟨z, h⟩ => by rw [h]; exact q z) fun _ _ _ z => z.elim
  refine rs_run ?_
  unfold Fb_law
  show Ss (seqF _ _ [some (.fz (ns.map D.int)), none, none, none, none, none, none, none]) _ _ _ _ _
  refine ss_seq (ss_set (rs_call (rs_cons (rs_call (rs_cons (rs_var rfl (rs_cons (rs_c (rs_nil (cell 1 (by omega) fun c1 => rs_cons (rs_c (rs_nil ?_))))))))))))
  refine (names_sp c1).impE ?_ fun _ _ _ z => z.elim
  rintro _ ⟨ws, rfl, hws⟩
  refine ss_seq (ss_set (rs_call (rs_cons (rs_call (rs_cons (rs_var rfl (rs_cons (rs_c (rs_nil (cell 2 (by omega) fun c2 => rs_cons (rs_c (rs_nil ?_))))))))))))
  refine (texts_sp c2).impE ?_ fun _ _ _ z => z.elim
  rintro _ ⟨tx, rfl, htx⟩
  match ws, hws with
  | [w0, w1, w2, w3, w4, w5, w6, w7], _ =>
  refine ss_seq (ss_set (rs_lst (rs_cons (rs_c (rs_cons (rs_op (rs_var rfl (rs_c (rs_ixL (d := wD w6) (atI_nat (j := 6) rfl) ?_)))))))))
  refine rs_cons (rs_op (rs_var rfl (rs_c (rs_ixL (d := wD w7) (atI_nat (j := 7) rfl) (rs_cons (rs_op (rs_var rfl (rs_c (rs_ixL (d := wD w0) (atI_nat (j := 0) rfl) ?_)))))))))
  refine rs_nil ⟨Nat.le_of_ble_eq_true rfl, ?_⟩
  refine ss_seq (ss_set (rs_op (rs_call (rs_cons (rs_call (rs_cons (rs_var rfl (rs_cons (rs_c (rs_nil (cell 4 (by omega) fun c4 => rs_nil (rs_int (rs_op (rs_c (rs_c ?_)))))))))))))))
  unfold powD
  refine rs_guard (by decide) (rs_mod (by decide) ?_)
  show Ss (seqF _ _ [some (.fz (ns.map D.int)), some (.lst ([w0, w1, w2, w3, w4, w5, w6, w7].map wD)), some (.lst (tx.map wD)), some (.lst ([[], w6, w7, w0].map wD)), some (.int (c4 % 1000000000)), none, none, none]) _ _ _ _ _
  have hfar : 0 ≤ c4 % 1000000000 := by omega
  generalize c4 % 1000000000 = far at hfar ⊢
  have kinds : cutL ([w0, w1, w2, w3, w4, w5, w6, w7].map wD) none (some 6) = [w0, w1, w2, w3, w4, w5].map wD := rfl
  refine ss_seq (ss_set (rs_call (rs_cons (rs_call (rs_cons (rs_var rfl (rs_cons (rs_c (rs_nil (cell 0 (by omega) fun c0 => rs_cons (rs_c (rs_cons (rs_c (rs_cons ?_))))))))))))))
  refine rs_sl (rs_var rfl (rs_noP (rs_part (rs_c (rs_asI (rs_slL ?_))))))
  rw [kinds]
  refine rs_cons (rs_var rfl (rs_cons (rs_var rfl (rs_nil ?_))))
  refine (tree_sp c0 [w0, w1, w2, w3, w4, w5] [[], w6, w7, w0] tx (Nat.le_of_ble_eq_true rfl) (Nat.le_of_ble_eq_true rfl) (by omega)).impE ?_ fun _ _ _ z => z.elim
  rintro _ ⟨t1, rfl, r1, s1⟩
  refine ss_seq (ss_set (rs_call (rs_cons (rs_call (rs_cons (rs_var rfl (rs_cons (rs_c (rs_nil (cell 3 (by omega) fun c3 => rs_cons (rs_c (rs_cons (rs_c (rs_cons ?_))))))))))))))
  refine rs_sl (rs_var rfl (rs_noP (rs_part (rs_c (rs_asI (rs_slL ?_))))))
  rw [kinds]
  refine rs_cons (rs_var rfl (rs_cons (rs_var rfl (rs_nil ?_))))
  refine (tree_sp c3 [w0, w1, w2, w3, w4, w5] [[], w6, w7, w0] tx (Nat.le_of_ble_eq_true rfl) (Nat.le_of_ble_eq_true rfl) (by omega)).impE ?_ fun _ _ _ z => z.elim
  rintro _ ⟨t2, rfl, r2, s2⟩
  refine ss_seq (ss_for (fun _ r => ∃ x7, r = [some (.fz (ns.map D.int)), some (.lst ([w0, w1, w2, w3, w4, w5, w6, w7].map wD)), some (.lst (tx.map wD)), some (.lst ([[], w6, w7, w0].map wD)), some (.int far), some (tD t1), some (tD t2), x7]) (rs_it (rs_lst (rs_cons (rs_var rfl (rs_cons (rs_var rfl (rs_cons (rs_var rfl (rs_nil ⟨Nat.le_of_ble_eq_true rfl, ?_⟩))))))))))
  show Rs (.ok [tD t1, tD t2, tD t1]) _ _
  refine ⟨⟨_, rfl⟩, ?_, ?_⟩
  · rintro i d r hd ⟨x7, rfl⟩
    have hd : ∃ t, d = tD t ∧ isTx t = false ∧ sz t ≤ 5000 := by
      rcases List.mem_cons.mp (List.mem_of_getElem? hd) with rfl | h
      · exact ⟨t1, rfl, r1, s1⟩
      · rcases List.mem_cons.mp h with rfl | h
        · exact ⟨t2, rfl, r2, s2⟩
        · rcases List.mem_singleton.mp h with rfl
          exact ⟨t1, rfl, r1, s1⟩
    obtain ⟨t, rfl, r3, s3⟩ := hd
    refine ⟨_, rfl, ?_⟩
    unfold Lp_law_1
    refine ss_if (rs_not (rs_T (rs_call (rs_cons (rs_var (d := tD t) rfl (rs_cons (rs_var (d := .int far) rfl (rs_nil (Rs.of (elders_eq t r3 s3 far hfar) (rs_truB ⟨fun z => (by cases z), fun _ => ss_nx ⟨_, rfl⟩⟩))))))))))
  · rintro r ⟨x7, rfl⟩
    exact ss_ret (rs_c rfl))
end
end Lk
end S_MM_02a
section S_P_walk
set_option Elab.async false
set_option linter.all false
set_option maxRecDepth 100000
set_option maxHeartbeats 4000000
namespace Lk
open PySem L2 Dx
def topS (i : Nat) : Stmt := PySem.Challenge.pw_laidforall_k02_elder_siblings.main.body.getD i (.Pass ⟨0, 0, 0, 0⟩)
abbrev s_node_at : Stmt := topS 5
theorem sc_node_at : FnScope ["tree", "place", "node", "index"] ["tree", "place"] (defScope s_node_at) := ⟨rfl, rfl, rfl, by decide +kernel, rfl, by decide +kernel, by decide +kernel⟩
abbrev s_element_at : Stmt := topS 6
theorem sc_element_at : FnScope ["tree", "place", "node"] ["tree", "place"] (defScope s_element_at) := ⟨rfl, rfl, rfl, by decide +kernel, rfl, by decide +kernel, by decide +kernel⟩
abbrev s_elder_of : Stmt := topS 7
theorem sc_elder_of : FnScope ["tree", "place", "siblings", "index"] ["tree", "place"] (defScope s_elder_of) := ⟨rfl, rfl, rfl, by decide +kernel, rfl, by decide +kernel, by decide +kernel⟩
abbrev s_l_cell : Stmt := topS 9
theorem sc_l_cell : FnScope ["_law_script", "_law_k", "_law_number"] ["_law_script", "_law_k"] (defScope s_l_cell) := ⟨rfl, rfl, rfl, by decide +kernel, rfl, by decide +kernel, by decide +kernel⟩
abbrev s_l_row : Stmt := topS 10
theorem sc_l_row : FnScope ["_law_cell_here", "_law_limits", "_law_row_here", "_law_rest", "_law_k", "_law_mixed"] ["_law_cell_here", "_law_limits"] (defScope s_l_row) := ⟨rfl, rfl, rfl, by decide +kernel, rfl, by decide +kernel, by decide +kernel⟩
abbrev s_l_same : Stmt := topS 11
theorem sc_l_same : FnScope ["_law_one", "_law_two", "_law_k"] ["_law_one", "_law_two"] (defScope s_l_same) := ⟨rfl, rfl, rfl, by decide +kernel, rfl, by decide +kernel, by decide +kernel⟩
abbrev s_l_names : Stmt := topS 12
theorem sc_l_names : FnScope ["_law_cell_here", "_law_many", "_law_letters", "_law_row_here", "_law_names_here", "_law_k", "_law_word", "_law_pick", "_law_first", "_law_at", "_law_letter"] ["_law_cell_here", "_law_many"] (defScope s_l_names) := ⟨rfl, rfl, rfl, by decide +kernel, rfl, by decide +kernel, by decide +kernel⟩
abbrev s_l_texts : Stmt := topS 13
theorem sc_l_texts : FnScope ["_law_cell_here", "_law_many", "_law_signs", "_law_row_here", "_law_texts_here", "_law_k", "_law_text", "_law_pick"] ["_law_cell_here", "_law_many"] (defScope s_l_texts) := ⟨rfl, rfl, rfl, by decide +kernel, rfl, by decide +kernel, by decide +kernel⟩
abbrev s_l_close : Stmt := topS 14
theorem sc_l_close : FnScope ["_law_stack", "_law_done", "_law_inside"] ["_law_stack"] (defScope s_l_close) := ⟨rfl, rfl, rfl, by decide +kernel, rfl, by decide +kernel, by decide +kernel⟩
abbrev s_l_tree : Stmt := topS 15
theorem sc_l_tree : FnScope ["_law_cell_here", "_law_most", "_law_deep", "_law_kinds", "_law_marks", "_law_texts_here", "_law_row_here", "_law_menu", "_law_stack", "_law_moves", "_law_k", "_law_way", "_law_pick", "_law_more", "_law_kind", "_law_mark", "_law_inside", "_law_at"] ["_law_cell_here", "_law_most", "_law_deep", "_law_kinds", "_law_marks", "_law_texts_here"] (defScope s_l_tree) := ⟨rfl, rfl, rfl, by decide +kernel, rfl, by decide +kernel, by decide +kernel⟩
abbrev s_l_nodes : Stmt := topS 16
theorem sc_l_nodes : FnScope ["_law_tree_here", "_law_nodes_here", "_law_left", "_law_place", "_law_node", "_law_index"] ["_law_tree_here"] (defScope s_l_nodes) := ⟨rfl, rfl, rfl, by decide +kernel, rfl, by decide +kernel, by decide +kernel⟩
abbrev s_l_asked : Stmt := topS 17
theorem sc_l_asked : FnScope ["_law_tree_here", "_law_place", "e"] ["_law_tree_here", "_law_place"] (defScope s_l_asked) := ⟨rfl, rfl, rfl, by decide +kernel, rfl, by decide +kernel, by decide +kernel⟩
abbrev s_l_elders : Stmt := topS 18
theorem sc_l_elders : FnScope ["_law_tree_here", "_law_far", "_law_place", "_law_node", "_law_last", "_law_index", "_law_spot", "_law_due", "_law_beneath", "_law_beyond"] ["_law_tree_here", "_law_far"] (defScope s_l_elders) := ⟨rfl, rfl, rfl, by decide +kernel, rfl, by decide +kernel, by decide +kernel⟩
abbrev s_law : Stmt := topS 19
theorem sc_law : FnScope ["_law_script", "_law_names_here", "_law_texts_here", "_law_marks", "_law_far", "_law_first", "_law_second", "_law_tree_here"] ["_law_script"] (defScope s_law) := ⟨rfl, rfl, rfl, by decide +kernel, rfl, by decide +kernel, by decide +kernel⟩
abbrev s_NoPlace : Stmt := inClass (topS 2) 0
theorem sc_NoPlace : FnScope ["self", "place"] ["self", "place"] (defScope s_NoPlace) := ⟨rfl, rfl, rfl, by decide +kernel, rfl, by decide +kernel, by decide +kernel⟩
structure Txt (K : PySem.W.Frag) (mg : Str → Option Value) where
  f_node_at : Addr
  fd_node_at : FuncData
  F_node_at : Fun K "node_at" "node_at" s_node_at f_node_at fd_node_at
  g_node_at : mg "node_at" = some (.ref f_node_at)
  b_node_at : L2.Binds K fd_node_at ["tree", "place"] []
  f_element_at : Addr
  fd_element_at : FuncData
  F_element_at : Fun K "element_at" "element_at" s_element_at f_element_at fd_element_at
  g_element_at : mg "element_at" = some (.ref f_element_at)
  b_element_at : L2.Binds K fd_element_at ["tree", "place"] []
  f_elder_of : Addr
  fd_elder_of : FuncData
  F_elder_of : Fun K "elder_of" "elder_of" s_elder_of f_elder_of fd_elder_of
  g_elder_of : mg "elder_of" = some (.ref f_elder_of)
  b_elder_of : L2.Binds K fd_elder_of ["tree", "place"] []
  f_l_cell : Addr
  fd_l_cell : FuncData
  F_l_cell : Fun K "_law_cell" "_law_cell" s_l_cell f_l_cell fd_l_cell
  g_l_cell : mg "_law_cell" = some (.ref f_l_cell)
  b_l_cell : L2.Binds K fd_l_cell ["_law_script", "_law_k"] []
  f_l_row : Addr
  fd_l_row : FuncData
  F_l_row : Fun K "_law_row" "_law_row" s_l_row f_l_row fd_l_row
  g_l_row : mg "_law_row" = some (.ref f_l_row)
  b_l_row : L2.Binds K fd_l_row ["_law_cell_here", "_law_limits"] []
  f_l_same : Addr
  fd_l_same : FuncData
  F_l_same : Fun K "_law_same" "_law_same" s_l_same f_l_same fd_l_same
  g_l_same : mg "_law_same" = some (.ref f_l_same)
  b_l_same : L2.Binds K fd_l_same ["_law_one", "_law_two"] []
  f_l_names : Addr
  fd_l_names : FuncData
  F_l_names : Fun K "_law_names" "_law_names" s_l_names f_l_names fd_l_names
  g_l_names : mg "_law_names" = some (.ref f_l_names)
  b_l_names : L2.Binds K fd_l_names ["_law_cell_here", "_law_many"] []
  f_l_texts : Addr
  fd_l_texts : FuncData
  F_l_texts : Fun K "_law_texts" "_law_texts" s_l_texts f_l_texts fd_l_texts
  g_l_texts : mg "_law_texts" = some (.ref f_l_texts)
  b_l_texts : L2.Binds K fd_l_texts ["_law_cell_here", "_law_many"] []
  f_l_close : Addr
  fd_l_close : FuncData
  F_l_close : Fun K "_law_close" "_law_close" s_l_close f_l_close fd_l_close
  g_l_close : mg "_law_close" = some (.ref f_l_close)
  b_l_close : L2.Binds K fd_l_close ["_law_stack"] []
  f_l_tree : Addr
  fd_l_tree : FuncData
  F_l_tree : Fun K "_law_tree" "_law_tree" s_l_tree f_l_tree fd_l_tree
  g_l_tree : mg "_law_tree" = some (.ref f_l_tree)
  b_l_tree : L2.Binds K fd_l_tree ["_law_cell_here", "_law_most", "_law_deep", "_law_kinds", "_law_marks", "_law_texts_here"] []
  f_l_nodes : Addr
  fd_l_nodes : FuncData
  F_l_nodes : Fun K "_law_nodes" "_law_nodes" s_l_nodes f_l_nodes fd_l_nodes
  g_l_nodes : mg "_law_nodes" = some (.ref f_l_nodes)
  b_l_nodes : L2.Binds K fd_l_nodes ["_law_tree_here"] []
  f_l_asked : Addr
  fd_l_asked : FuncData
  F_l_asked : Fun K "_law_asked" "_law_asked" s_l_asked f_l_asked fd_l_asked
  g_l_asked : mg "_law_asked" = some (.ref f_l_asked)
  b_l_asked : L2.Binds K fd_l_asked ["_law_tree_here", "_law_place"] []
  f_l_elders : Addr
  fd_l_elders : FuncData
  F_l_elders : Fun K "_law_elders" "_law_elders" s_l_elders f_l_elders fd_l_elders
  g_l_elders : mg "_law_elders" = some (.ref f_l_elders)
  b_l_elders : L2.Binds K fd_l_elders ["_law_tree_here", "_law_far"] []
  f_law : Addr
  fd_law : FuncData
  F_law : Fun K "law" "law" s_law f_law fd_law
  g_law : mg "law" = some (.ref f_law)
  b_law : L2.Binds K fd_law ["_law_script"] []
  n_ValueError : mg "ValueError" = none
  n_bool : mg "bool" = none
  n_int : mg "int" = none
  n_isinstance : mg "isinstance" = none
  n_len : mg "len" = none
  n_list : mg "list" = none
  n_max : mg "max" = none
  n_range : mg "range" = none
  n_str : mg "str" = none
  n_sum : mg "sum" = none
  n_tuple : mg "tuple" = none
  a_LaidError : Addr
  g_LaidError : mg "LaidError" = some (.ref a_LaidError)
  a_NoPlace : Addr
  g_NoPlace : mg "NoPlace" = some (.ref a_NoPlace)
  a_Strange : Addr
  g_Strange : mg "Strange" = some (.ref a_Strange)
  o_NoPlace : OexC K a_NoPlace
  fI_NoPlace : Addr
  fdI_NoPlace : FuncData
  i_NoPlace : PySem.W.findIn K (.ref a_NoPlace) "__init__" = some (some (.ref fI_NoPlace))
  ti_NoPlace : PySem.W.typeIn K (.ref fI_NoPlace) = some (.type "function")
  FI_NoPlace : Fun K "__init__" "NoPlace.__init__" s_NoPlace fI_NoPlace fdI_NoPlace
  b_NoPlace : L2.Binds K fdI_NoPlace ["self", "place"] []
  no_NoPlace_place : PySem.W.findIn K (.ref a_NoPlace) "place" = some none
  xf_NoPlace : XfC K a_NoPlace
  xc_NoPlace : ExcC K a_NoPlace
  e_NoPlace_LaidError : PySem.W.exmOne K (.ref a_NoPlace) (.ref a_LaidError) = some true
  q_NoPlace_NoPlace : PySem.W.kitOne K (.ref a_NoPlace) (.ref a_NoPlace) = some true
  q_NoPlace_Strange : PySem.W.kitOne K (.ref a_NoPlace) (.ref a_Strange) = some false
  q_NoPlace_ValueError : PySem.W.kitOne K (.ref a_NoPlace) (.type "ValueError") = some true
def Txt.cm {K : PySem.W.Frag} {mg : Str → Option Value} (T : Txt K mg) : CM := fun n => if n = "NoPlace" then some T.a_NoPlace else none
section
variable {P : Program} {w : World} {K : PySem.W.Frag} {mg : Str → Option Value} {base : Heap}
theorem Txt.cm_NoPlace (T : Txt K mg) : T.cm "NoPlace" = some T.a_NoPlace := by unfold Txt.cm; rw [if_pos rfl]
theorem Txt.exm_LaidError (T : Txt K mg) : ∀ n C b, T.cm n = some C → isM_LaidError n = some b → PySem.W.exmOne K (.ref C) (.ref T.a_LaidError) = some b := by
  intro n C b h1 h2
  unfold Txt.cm at h1
  unfold isM_LaidError at h2
  by_cases e0 : n = "NoPlace"
  · subst e0; simp at h1 h2; subst h1 h2; exact T.e_NoPlace_LaidError
  simp [e0] at h2
theorem Txt.xf_of_LaidError (T : Txt K mg) {C : Addr} (h : ∃ n, T.cm n = some C ∧ isM_LaidError n = some true) : XfC K C := by
  obtain ⟨n, h1, h2⟩ := h
  unfold Txt.cm at h1
  unfold isM_LaidError at h2
  by_cases e0 : n = "NoPlace"
  · subst e0; simp at h1; subst h1; exact T.xf_NoPlace
  simp [e0] at h2
theorem Txt.xc_of_LaidError (T : Txt K mg) {C : Addr} (h : ∃ n, T.cm n = some C ∧ isM_LaidError n = some true) : ExcC K C := by
  obtain ⟨n, h1, h2⟩ := h
  unfold Txt.cm at h1
  unfold isM_LaidError at h2
  by_cases e0 : n = "NoPlace"
  · subst e0; simp at h1; subst h1; exact T.xc_NoPlace
  simp [e0] at h2
theorem Txt.no_of_LaidError_place (T : Txt K mg) {C : Addr} (h : ∃ n, T.cm n = some C ∧ isM_LaidError n = some true) : PySem.W.findIn K (.ref C) "place" = some none := by
  obtain ⟨n, h1, h2⟩ := h
  unfold Txt.cm at h1
  unfold isM_LaidError at h2
  by_cases e0 : n = "NoPlace"
  · subst e0; simp at h1; subst h1; exact T.no_NoPlace_place
  simp [e0] at h2
theorem Txt.isi_NoPlace (T : Txt K mg) : ∀ n C b, T.cm n = some C → isM_NoPlace n = some b → PySem.W.kitOne K (.ref C) (.ref T.a_NoPlace) = some b := by
  intro n C b h1 h2
  unfold Txt.cm at h1
  unfold isM_NoPlace at h2
  by_cases e0 : n = "NoPlace"
  · subst e0; simp at h1 h2; subst h1 h2; exact T.q_NoPlace_NoPlace
  simp [e0] at h2
theorem Txt.isi_Strange (T : Txt K mg) : ∀ n C b, T.cm n = some C → isM_Strange n = some b → PySem.W.kitOne K (.ref C) (.ref T.a_Strange) = some b := by
  intro n C b h1 h2
  unfold Txt.cm at h1
  unfold isM_Strange at h2
  by_cases e0 : n = "NoPlace"
  · subst e0; simp at h1 h2; subst h1 h2; exact T.q_NoPlace_Strange
  simp [e0] at h2
theorem Txt.isi_ValueError (T : Txt K mg) : ∀ n C b, T.cm n = some C → isM_ValueError n = some b → PySem.W.kitOne K (.ref C) (.type "ValueError") = some b := by
  intro n C b h1 h2
  unfold Txt.cm at h1
  unfold isM_ValueError at h2
  by_cases e0 : n = "NoPlace"
  · subst e0; simp at h1 h2; subst h1 h2; exact T.q_NoPlace_ValueError
  simp [e0] at h2
theorem ox_NoPlace (T : Txt K mg) : FnOk P w K mg base (L2.CX P w) 1 T.fI_NoPlace T.fdI_NoPlace ["self", "place"] (spX1 K T.a_NoPlace "place") := xinit1 T.FI_NoPlace sc_NoPlace rfl rfl fun cdv A outer s H E => pss_one (ps_ost (pv 0) (pv 1))
theorem ok_node_at (T : Txt K mg) : FnOk P w K mg base (L2.CX P w) 3 T.f_node_at T.fd_node_at ["tree", "place"] (spD K T.cm [false, false] false F_node_at)   := dok (G' := []) (k := 2) T.F_node_at sc_node_at rfl (by decide) fun cdv A outer s H E hr =>
  (ds_cons (ds_set 2 gok0 sc_node_at.nd rfl (by first | exact Or.inl rfl | exact Or.inr rfl) (de_var 0 (pv 0) rfl))
  (ds_cons (ds_for gok0 (passes_of rfl) rfl (di_tup (de_var 1 (pv 1) rfl)) (dg_name 3 sc_node_at.nd rfl (by first | exact Or.inl rfl | exact Or.inr rfl))
  (ds_cons (ds_if gok0 (PW.pt (dw_or (dt_val (de_isi "str" T.n_isinstance (by rfl) (by rfl) T.n_str (by decide +kernel) (db_var 2 (pv 2) (.inl (by rfl))))) (dw_or1 (dt_not (dt_chain or_le os_ord or_lt os_ord (db_of de_int) (db_var 3 (pv 3) (.inl (by rfl))) (db_of (de_bltn call_len cs_len (by rfl) T.n_len (by decide +kernel) (dm_bor (db_of (de_ix (db_var 2 (pv 2) (.inl (by rfl))) (db_of de_int) (fun _ _ => rfl))) dm_nil))))))))
  (ds_one (ds_raise1 gok0 T.cm_NoPlace rfl (takes_of rfl rfl rfl rfl) T.o_NoPlace T.i_NoPlace T.ti_NoPlace T.no_NoPlace_place (ox_NoPlace T) (hr.mono (by decide)) T.b_NoPlace (by rfl) T.g_NoPlace (da_cons (de_var 1 (pv 1) rfl) da_nil)))
  ds_nil)
  (ds_one (ds_set 2 gok0 sc_node_at.nd rfl (by first | exact Or.inl rfl | exact Or.inr rfl) (de_ix (db_of (de_ix (db_var 2 (pv 2) (.inl (by rfl))) (db_of de_int) (fun _ _ => rfl))) (db_var 3 (pv 3) (.inl (by rfl))) (fun _ _ => rfl))))))
  (ds_one (ds_ret gok0 rfl (de_var 2 (pv 2) rfl)))))
theorem ok_element_at (T : Txt K mg) : FnOk P w K mg base (L2.CX P w) 4 T.f_element_at T.fd_element_at ["tree", "place"] (spD K T.cm [false, false] false F_element_at)   := dok (G' := []) (k := 3) T.F_element_at sc_element_at rfl (by decide) fun cdv A outer s H E hr =>
  (ds_cons (ds_set 2 gok0 sc_element_at.nd rfl (by first | exact Or.inl rfl | exact Or.inr rfl) (de_callV (ok_node_at T) (takes_of rfl rfl rfl rfl) (hr.mono (by decide)) (by rfl) T.g_node_at T.F_node_at.kp T.b_node_at (dm_val (de_var 0 (pv 0) rfl) (dm_val (de_var 1 (pv 1) rfl) dm_nil))))
  (ds_cons (ds_if gok0 (dt_val (de_isi "str" T.n_isinstance (by rfl) (by rfl) T.n_str (by decide +kernel) (db_var 2 (pv 2) (.inl (by rfl)))))
  (ds_one (ds_raise1 gok0 T.cm_NoPlace rfl (takes_of rfl rfl rfl rfl) T.o_NoPlace T.i_NoPlace T.ti_NoPlace T.no_NoPlace_place (ox_NoPlace T) (hr.mono (by decide)) T.b_NoPlace (by rfl) T.g_NoPlace (da_cons (de_var 1 (pv 1) rfl) da_nil)))
  ds_nil)
  (ds_one (ds_ret gok0 rfl (de_var 2 (pv 2) rfl)))))
theorem ok_elder_of (T : Txt K mg) : FnOk P w K mg base (L2.CX P w) 5 T.f_elder_of T.fd_elder_of ["tree", "place"] (spD K T.cm [false, false] false F_elder_of)   := dok (G' := []) (k := 4) T.F_elder_of sc_elder_of rfl (by decide) fun cdv A outer s H E hr =>
  (ds_cons (ds_expr gok0 (de_callV (ok_element_at T) (takes_of rfl rfl rfl rfl) (hr.mono (by decide)) (by rfl) T.g_element_at T.F_element_at.kp T.b_element_at (dm_val (de_var 0 (pv 0) rfl) (dm_val (de_var 1 (pv 1) rfl) dm_nil))))
  (ds_cons (ds_if gok0 (dt_cmp (or_eq hr.units) os_eq (db_var 1 (pv 1) (.inl (by rfl))) (db_of (de_tup da_nil)) (nomark _))
  (ds_one (ds_ret gok0 rfl de_non))
  ds_nil)
  (ds_cons (ds_set 2 gok0 sc_elder_of.nd rfl (by first | exact Or.inl rfl | exact Or.inr rfl) (de_ix (db_of (de_callV (ok_node_at T) (takes_of rfl rfl rfl rfl) (hr.mono (by decide)) (by rfl) T.g_node_at T.F_node_at.kp T.b_node_at (dm_val (de_var 0 (pv 0) rfl) (dm_val (de_sl (db_var 1 (pv 1) (.inl (by rfl))) dp_none (dp_some (de_neg de_int))) dm_nil)))) (db_of de_int) (fun _ _ => rfl)))
  (ds_cons (ds_for gok0 (passes_of rfl) rfl (di_rng3 T.n_range (by rfl) (da_cons (de_op op_sub os_sub (db_of (de_ix (db_var 1 (pv 1) (.inl (by rfl))) (db_of (de_neg de_int)) (fun _ _ => rfl))) (db_of de_int)) (da_cons (de_neg de_int) (da_cons (de_neg de_int) da_nil)))) (dg_name 3 sc_elder_of.nd rfl (by first | exact Or.inl rfl | exact Or.inr rfl))
  (ds_one (ds_if gok0 (dt_not (dt_val (de_isi "str" T.n_isinstance (by rfl) (by rfl) T.n_str (by decide +kernel) (db_of (de_ix (db_var 2 (pv 2) (.inl (by rfl))) (db_var 3 (pv 3) (.inl (by rfl))) (fun _ _ => rfl))))))
  (ds_one (ds_ret gok0 rfl (de_op or_add os_add (db_of (de_sl (db_var 1 (pv 1) (.inl (by rfl))) dp_none (dp_some (de_neg de_int)))) (db_of (de_tup (da_cons (de_var 3 (pv 3) rfl) da_nil))))))
  ds_nil)))
  (ds_one (ds_ret gok0 rfl de_non))))))
theorem ok_l_cell (T : Txt K mg) : FnOk P w K mg base (L2.CX P w) 1 T.f_l_cell T.fd_l_cell ["_law_script", "_law_k"] (spD K T.cm [false, false] false F_l_cell)   := dok (G' := []) (k := 0) T.F_l_cell sc_l_cell rfl (by decide) fun cdv A outer s H E hr =>
  (ds_cons (ds_if gok0 (dt_cmp (or_eq hr.units) os_eq (db_of (de_bltn call_len cs_len (by rfl) T.n_len (by decide +kernel) (dm_bor (db_var 0 (pv 0) (.inl (by rfl))) dm_nil))) (db_of de_int) (nomark _))
  (ds_one (ds_ret gok0 rfl (de_op op_pow os_pow (db_of de_int) (db_of de_int))))
  ds_nil)
  (ds_cons (ds_if gok0 (dt_cmp or_lt os_ord (db_var 1 (pv 1) (.inl (by rfl))) (db_of (de_bltn call_len cs_len (by rfl) T.n_len (by decide +kernel) (dm_bor (db_var 0 (pv 0) (.inl (by rfl))) dm_nil))) (nomark _))
  (ds_one (ds_ret gok0 rfl (de_type cr_int cs_int (by rfl) T.n_int (by decide +kernel) (dm_bor (db_of (de_ix (db_var 0 (pv 0) (.inl (by rfl))) (db_var 1 (pv 1) (.inl (by rfl))) (fun _ _ => rfl))) dm_nil))))
  ds_nil)
  (ds_one (ds_ret gok0 rfl (de_op or_add os_add (db_of (de_op or_mulX os_mulX (db_of de_int) (db_var 1 (pv 1) (.inl (by rfl))))) (db_of (de_bltn (cr_sum rfl) cs_sum (by rfl) T.n_sum (by decide +kernel) (dm_bor (db_own (de_lc (own := [("_law_number", 2)]) rfl sc_l_cell.nd (di_list (de_var 0 (pv 0) rfl)) (blkOk_by (own := [("_law_number", 2)]) (N := ["_law_script", "_law_k", "_law_number"]) (sc := defScope s_l_cell) (by decide +kernel)) (fun _ _ _ _ _ => (dg_name 2 sc_l_cell.nd rfl (by first | exact Or.inl rfl | exact Or.inr rfl))) (fun _ _ _ _ _ => dt_nil) (fun _ _ _ _ _ => (de_op op_mod os_mod (db_of (de_type cr_int cs_int (by rfl) T.n_int (by decide +kernel) (dm_bor (db_var 2 (pv 2) (.inl (by rfl))) dm_nil))) (db_of de_int))))) dm_nil))))))))
theorem ok_l_row (T : Txt K mg) : FnOk P w K mg base (L2.CX P w) 1 T.f_l_row T.fd_l_row ["_law_cell_here", "_law_limits"] (spD K T.cm [false, false] false F_l_row)   := dok (G' := []) (k := 0) T.F_l_row sc_l_row rfl (by decide) fun cdv A outer s H E hr =>
  (ds_cons (ds_setO 2 gok0 (show 2 < 6 by decide) sc_l_row.nd rfl (by first | exact Or.inl rfl | exact Or.inr rfl) (de_lst da_nil))
  (ds_cons (ds_set 3 gok0 sc_l_row.nd rfl (by first | exact Or.inl rfl | exact Or.inr rfl) (de_bltn (call_max2 rfl) cs_ints2 (by rfl) T.n_max (by decide +kernel) (dm_bor (db_of de_int) (dm_bor (db_of (de_op op_sub os_sub (db_var 0 (pv 0) (.inl (by rfl))) (db_of (de_op op_pow os_pow (db_of de_int) (db_of de_int))))) dm_nil))))
  (ds_cons (ds_for gok0 (passes_of rfl) rfl (di_rng1 T.n_range (by rfl) (da_cons (de_bltn call_len cs_len (by rfl) T.n_len (by decide +kernel) (dm_bor (db_var 1 (pv 1) (.inl (by rfl))) dm_nil)) da_nil)) (dg_name 4 sc_l_row.nd rfl (by first | exact Or.inl rfl | exact Or.inr rfl))
  (ds_one (ds_if gok0 (PW.pt (dw_or (dt_cmp or_gt os_ord (db_var 3 (pv 3) (.inl (by rfl))) (db_of de_int) (nomark _)) (dw_or1 (dt_cmp (or_eq hr.units) os_eq (db_var 0 (pv 0) (.inl (by rfl))) (db_of (de_op op_pow os_pow (db_of de_int) (db_of de_int))) (nomark _)))))
  (ds_cons (ds_app 2 gok0 rfl (pv 2) (de_op op_mod os_mod (db_of (de_type cr_int cs_int (by rfl) T.n_int (by decide +kernel) (dm_bor (db_var 3 (pv 3) (.inl (by rfl))) dm_nil))) (db_of (de_ix (db_var 1 (pv 1) (.inl (by rfl))) (db_var 4 (pv 4) (.inl (by rfl))) (fun _ _ => rfl)))))
  (ds_one (ds_set 3 gok0 sc_l_row.nd rfl (by first | exact Or.inl rfl | exact Or.inr rfl) (de_op or_fdiv os_fdiv (db_var 3 (pv 3) (.inl (by rfl))) (db_of (de_ix (db_var 1 (pv 1) (.inl (by rfl))) (db_var 4 (pv 4) (.inl (by rfl))) (fun _ _ => rfl)))))))
  (ds_cons (ds_set 5 gok0 sc_l_row.nd rfl (by first | exact Or.inl rfl | exact Or.inr rfl) (de_op op_mod os_mod (db_of (de_type cr_int cs_int (by rfl) T.n_int (by decide +kernel) (dm_bor (db_of (de_op or_add os_add (db_of (de_op or_add os_add (db_of (de_op or_mulX os_mulX (db_var 0 (pv 0) (.inl (by rfl))) (db_of de_int))) (db_of (de_op or_mulX os_mulX (db_var 4 (pv 4) (.inl (by rfl))) (db_of de_int))))) (db_of de_int))) dm_nil))) (db_of de_int)))
  (ds_cons (ds_set 5 gok0 sc_l_row.nd rfl (by first | exact Or.inl rfl | exact Or.inr rfl) (de_op op_mod os_mod (db_of (de_type cr_int cs_int (by rfl) T.n_int (by decide +kernel) (dm_bor (db_of (de_op or_add os_add (db_of (de_op or_add os_add (db_of (de_op or_mulX os_mulX (db_var 5 (pv 5) (.inl (by rfl))) (db_of (de_op or_add os_add (db_of de_int) (db_of (de_op or_mulX os_mulX (db_of de_int) (db_var 4 (pv 4) (.inl (by rfl))))))))) (db_of (de_op or_mulX os_mulX (db_of (de_op or_mulX os_mulX (db_var 4 (pv 4) (.inl (by rfl))) (db_var 4 (pv 4) (.inl (by rfl))))) (db_of de_int))))) (db_of de_int))) dm_nil))) (db_of de_int)))
  (ds_one (ds_app 2 gok0 rfl (pv 2) (de_op op_mod os_mod (db_of (de_type cr_int cs_int (by rfl) T.n_int (by decide +kernel) (dm_bor (db_of (de_op or_fdiv os_fdiv (db_var 5 (pv 5) (.inl (by rfl))) (db_of de_int))) dm_nil))) (db_of (de_ix (db_var 1 (pv 1) (.inl (by rfl))) (db_var 4 (pv 4) (.inl (by rfl))) (fun _ _ => rfl)))))))))))
  (ds_pub 2 (ds_one (ds_ret gok0 rfl (de_var 2 (pv 2) rfl))) (.inl rfl)))))
theorem ok_l_same (T : Txt K mg) : ∀ {n : Nat}, FnOk P w K mg base (L2.CX P w) (1 + n) T.f_l_same T.fd_l_same ["_law_one", "_law_two"] (spD K T.cm [false, false] false (F_l_same n))
  | 0 => fnok_bad
  | n + 1 => dok (G' := []) (k := 1 + n) T.F_l_same sc_l_same rfl (by decide) fun cdv A outer s H E hr => by
    have ih := fun T => ok_l_same T (n := n)
    exact (ds_cons (ds_if gok0 (dt_cmp op_isN os_is (db_var 1 (pv 1) (.inl (by rfl))) (db_of de_non) (nomark _))
  (ds_one (ds_ret gok0 rfl (de_cmp op_isN os_is (db_var 0 (pv 0) (.inl (by rfl))) (db_of de_non) (nomark _))))
  ds_nil)
  (ds_cons (ds_if gok0 (dt_val (de_isi "str" T.n_isinstance (by rfl) (by rfl) T.n_str (by decide +kernel) (db_var 1 (pv 1) (.inl (by rfl)))))
  (ds_one (ds_ret gok0 rfl (de_and (de_isi "str" T.n_isinstance (by rfl) (by rfl) T.n_str (by decide +kernel) (db_var 0 (pv 0) (.inl (by rfl)))) (de_one (de_cmp (or_eq hr.units) os_eq (db_var 0 (pv 0) (.inl (by rfl))) (db_var 1 (pv 1) (.inl (by rfl))) (nomark _))))))
  ds_nil)
  (ds_cons (ds_if gok0 (dt_val (de_isi "int" T.n_isinstance (by rfl) (by rfl) T.n_int (by decide +kernel) (db_var 1 (pv 1) (.inl (by rfl)))))
  (ds_one (ds_ret gok0 rfl (de_and (de_isi "int" T.n_isinstance (by rfl) (by rfl) T.n_int (by decide +kernel) (db_var 0 (pv 0) (.inl (by rfl)))) (de_and (de_not (de_isi "bool" T.n_isinstance (by rfl) (by rfl) T.n_bool (by decide +kernel) (db_var 0 (pv 0) (.inl (by rfl))))) (de_one (de_cmp (or_eq hr.units) os_eq (db_var 0 (pv 0) (.inl (by rfl))) (db_var 1 (pv 1) (.inl (by rfl))) (nomark _)))))))
  ds_nil)
  (ds_cons (ds_if gok0 (PW.pt (dw_or (dt_cmp (or_ne hr.units) os_ne (db_of (de_isi "tuple" T.n_isinstance (by rfl) (by rfl) T.n_tuple (by decide +kernel) (db_var 1 (pv 1) (.inl (by rfl))))) (db_of (de_isi "tuple" T.n_isinstance (by rfl) (by rfl) T.n_tuple (by decide +kernel) (db_var 0 (pv 0) (.inl (by rfl))))) (nomark _)) (dw_or1 (dt_cmp (or_ne hr.units) os_ne (db_of (de_isi "list" T.n_isinstance (by rfl) (by rfl) T.n_list (by decide +kernel) (db_var 1 (pv 1) (.inl (by rfl))))) (db_of (de_isi "list" T.n_isinstance (by rfl) (by rfl) T.n_list (by decide +kernel) (db_var 0 (pv 0) (.inl (by rfl))))) (nomark _)))))
  (ds_one (ds_ret gok0 rfl de_bl))
  ds_nil)
  (ds_cons (ds_if gok0 (dt_cmp (or_ne hr.units) os_ne (db_of (de_bltn call_len cs_len (by rfl) T.n_len (by decide +kernel) (dm_bor (db_var 0 (pv 0) (.inl (by rfl))) dm_nil))) (db_of (de_bltn call_len cs_len (by rfl) T.n_len (by decide +kernel) (dm_bor (db_var 1 (pv 1) (.inl (by rfl))) dm_nil))) (nomark _))
  (ds_one (ds_ret gok0 rfl de_bl))
  ds_nil)
  (ds_cons (ds_for gok0 (passes_of rfl) rfl (di_rng1 T.n_range (by rfl) (da_cons (de_bltn call_len cs_len (by rfl) T.n_len (by decide +kernel) (dm_bor (db_var 1 (pv 1) (.inl (by rfl))) dm_nil)) da_nil)) (dg_name 2 sc_l_same.nd rfl (by first | exact Or.inl rfl | exact Or.inr rfl))
  (ds_one (ds_if gok0 (dt_not (dt_val (de_callV (ih T) (takes_of rfl rfl rfl rfl) hr (by rfl) T.g_l_same T.F_l_same.kp T.b_l_same (dm_val (de_ix (db_var 0 (pv 0) (.inl (by rfl))) (db_var 2 (pv 2) (.inl (by rfl))) (fun _ _ => rfl)) (dm_val (de_ix (db_var 1 (pv 1) (.inl (by rfl))) (db_var 2 (pv 2) (.inl (by rfl))) (fun _ _ => rfl)) dm_nil)))))
  (ds_one (ds_ret gok0 rfl de_bl))
  ds_nil)))
  (ds_one (ds_ret gok0 rfl de_bl))))))))
theorem ok_l_names (T : Txt K mg) : FnOk P w K mg base (L2.CX P w) 2 T.f_l_names T.fd_l_names ["_law_cell_here", "_law_many"] (spD K T.cm [false, false] false F_l_names)   := dok (G' := []) (k := 1) T.F_l_names sc_l_names rfl (by decide) fun cdv A outer s H E hr =>
  (ds_cons (ds_set 2 gok0 sc_l_names.nd rfl (by first | exact Or.inl rfl | exact Or.inr rfl) (de_strL (by decide +kernel)))
  (ds_cons (ds_set 3 gok0 sc_l_names.nd rfl (by first | exact Or.inl rfl | exact Or.inr rfl) (de_callV (ok_l_row T) (takes_of rfl rfl rfl rfl) (hr.mono (by decide)) (by rfl) T.g_l_row T.F_l_row.kp T.b_l_row (dm_val (de_var 0 (pv 0) rfl) (dm_val (de_op or_add os_add (db_own (de_lst (da_cons de_int (da_cons de_int da_nil)))) (db_of (de_op or_mulX os_mulX (db_own (de_lst (da_cons de_int (da_cons de_int (da_cons de_int (da_cons de_int (da_cons de_int (da_cons de_int (da_cons de_int (da_cons de_int (da_cons de_int da_nil))))))))))) (db_var 1 (pv 1) (.inl (by rfl)))))) dm_nil))))
  (ds_cons (ds_setO 4 gok0 (show 4 < 11 by decide) sc_l_names.nd rfl (by first | exact Or.inl rfl | exact Or.inr rfl) (de_lst da_nil))
  (ds_cons (ds_for gok0 (passes_of rfl) rfl (di_rng1 T.n_range (by rfl) (da_cons (de_var 1 (pv 1) rfl) da_nil)) (dg_name 5 sc_l_names.nd rfl (by first | exact Or.inl rfl | exact Or.inr rfl))
  (ds_cons (ds_set 6 gok0 sc_l_names.nd rfl (by first | exact Or.inl rfl | exact Or.inr rfl) (de_m1 PySem.F.slot_str_join PySem.F.type_str_join mt_join ms_join (db_of (de_strL (by decide +kernel))) (db_own (de_lc (own := [("_law_pick", 7)]) rfl sc_l_names.nd (di_list (de_sl (db_var 3 (pv 3) (.inl (by rfl))) (dp_some (de_op or_add os_add (db_of (de_op or_mulX os_mulX (db_of de_int) (db_var 5 (pv 5) (.inl (by rfl))))) (db_of de_int))) (dp_some (de_op or_add os_add (db_of (de_op or_mulX os_mulX (db_of de_int) (db_var 5 (pv 5) (.inl (by rfl))))) (db_of de_int))))) (blkOk_by (own := [("_law_pick", 7)]) (N := ["_law_cell_here", "_law_many", "_law_letters", "_law_row_here", "_law_names_here", "_law_k", "_law_word", "_law_pick", "_law_first", "_law_at", "_law_letter"]) (sc := defScope s_l_names) (by decide +kernel)) (fun _ _ _ _ _ => (dg_name 7 sc_l_names.nd rfl (by first | exact Or.inl rfl | exact Or.inr rfl))) (fun _ _ _ _ _ => dt_nil) (fun _ _ _ _ _ => (de_ix (db_var 2 (pv 2) (.inl (by rfl))) (db_var 7 (pv 7) (.inl (by rfl))) (fun _ _ => rfl)))))))
  (ds_one (ds_app 4 gok0 rfl (pv 4) (de_sl (db_var 6 (pv 6) (.inl (by rfl))) dp_none (dp_some (de_op or_add os_add (db_of (de_ix (db_var 3 (pv 3) (.inl (by rfl))) (db_of (de_op or_add os_add (db_of (de_op or_mulX os_mulX (db_of de_int) (db_var 5 (pv 5) (.inl (by rfl))))) (db_of de_int))) (fun _ _ => rfl))) (db_of de_int))))))))
  (ds_cons (ds_set 8 gok0 sc_l_names.nd rfl (by first | exact Or.inl rfl | exact Or.inr rfl) (de_ix (db_var 4 (pv 4) (.inr (.inl (by trivial)))) (db_of de_int) (fun _ _ => rfl)))
  (ds_cons (ds_set 9 gok0 sc_l_names.nd rfl (by first | exact Or.inl rfl | exact Or.inr rfl) (de_op op_mod os_mod (db_of (de_type cr_int cs_int (by rfl) T.n_int (by decide +kernel) (dm_bor (db_of (de_ix (db_var 3 (pv 3) (.inl (by rfl))) (db_of de_int) (fun _ _ => rfl))) dm_nil))) (db_of (de_bltn call_len cs_len (by rfl) T.n_len (by decide +kernel) (dm_bor (db_var 8 (pv 8) (.inl (by rfl))) dm_nil)))))
  (ds_cons (ds_for gok0 (passes_of rfl) rfl (di_rng1 T.n_range (by rfl) (da_cons (de_var 1 (pv 1) rfl) da_nil)) (dg_name 5 sc_l_names.nd rfl (by first | exact Or.inl rfl | exact Or.inr rfl))
  (ds_cons (ds_if gok0 (dt_cmp (or_eq hr.units) os_eq (db_of (de_ix (db_var 3 (pv 3) (.inl (by rfl))) (db_of de_int) (fun _ _ => rfl))) (db_of de_int) (nomark _))
  (ds_cons (ds_set 10 gok0 sc_l_names.nd rfl (by first | exact Or.inl rfl | exact Or.inr rfl) (de_ix (db_var 2 (pv 2) (.inl (by rfl))) (db_of (de_op op_mod os_mod (db_of (de_type cr_int cs_int (by rfl) T.n_int (by decide +kernel) (dm_bor (db_of (de_op or_add os_add (db_of (de_ix (db_var 3 (pv 3) (.inl (by rfl))) (db_of de_int) (fun _ _ => rfl))) (db_of (de_op or_mulX os_mulX (db_of de_int) (db_var 5 (pv 5) (.inl (by rfl))))))) dm_nil))) (db_of de_int))) (fun _ _ => rfl)))
  (ds_one (ds_sto 4 gok0 rfl (pv 4) (de_var 5 (pv 5) rfl) (de_op or_add os_add (db_of (de_op or_add os_add (db_of (de_sl (db_var 8 (pv 8) (.inl (by rfl))) dp_none (dp_some (de_var 9 (pv 9) rfl)))) (db_var 10 (pv 10) (.inl (by rfl))))) (db_of (de_sl (db_var 8 (pv 8) (.inl (by rfl))) (dp_some (de_op or_add os_add (db_var 9 (pv 9) (.inl (by rfl))) (db_of de_int))) dp_none))))))
  ds_nil)
  (ds_one (ds_if gok0 (dt_cmp (or_eq hr.units) os_eq (db_of (de_ix (db_var 3 (pv 3) (.inl (by rfl))) (db_of de_int) (fun _ _ => rfl))) (db_of de_int) (nomark _))
  (ds_one (ds_sto 4 gok0 rfl (pv 4) (de_var 5 (pv 5) rfl) (de_sl (db_of (de_op or_mulX os_mulX (db_var 8 (pv 8) (.inl (by rfl))) (db_of de_int))) dp_none (dp_some (de_op or_add os_add (db_of de_int) (db_of (de_op op_mod os_mod (db_of (de_type cr_int cs_int (by rfl) T.n_int (by decide +kernel) (dm_bor (db_var 5 (pv 5) (.inl (by rfl))) dm_nil))) (db_of de_int))))))))
  ds_nil))))
  (ds_pub 4 (ds_one (ds_ret gok0 rfl (de_var 4 (pv 4) rfl))) (.inl rfl)))))))))
theorem ok_l_texts (T : Txt K mg) : FnOk P w K mg base (L2.CX P w) 2 T.f_l_texts T.fd_l_texts ["_law_cell_here", "_law_many"] (spD K T.cm [false, false] false F_l_texts)   := dok (G' := []) (k := 1) T.F_l_texts sc_l_texts rfl (by decide) fun cdv A outer s H E hr =>
  (ds_cons (ds_set 2 gok0 sc_l_texts.nd rfl (by first | exact Or.inl rfl | exact Or.inr rfl) (de_strL (by decide +kernel)))
  (ds_cons (ds_set 2 gok0 sc_l_texts.nd rfl (by first | exact Or.inl rfl | exact Or.inr rfl) (de_op or_add os_add (db_of (de_op or_add os_add (db_var 2 (pv 2) (.inl (by rfl))) (db_of (de_strL (by decide +kernel))))) (db_of (de_strL (by decide +kernel)))))
  (ds_cons (ds_set 3 gok0 sc_l_texts.nd rfl (by first | exact Or.inl rfl | exact Or.inr rfl) (de_callV (ok_l_row T) (takes_of rfl rfl rfl rfl) (hr.mono (by decide)) (by rfl) T.g_l_row T.F_l_row.kp T.b_l_row (dm_val (de_var 0 (pv 0) rfl) (dm_val (de_op or_add os_add (db_own (de_lst (da_cons de_int da_nil))) (db_of (de_op or_mulX os_mulX (db_of (de_op or_add os_add (db_own (de_lst (da_cons de_int da_nil))) (db_of (de_op or_mulX os_mulX (db_own (de_lst (da_cons (de_bltn call_len cs_len (by rfl) T.n_len (by decide +kernel) (dm_bor (db_var 2 (pv 2) (.inl (by rfl))) dm_nil)) da_nil))) (db_of de_int))))) (db_var 1 (pv 1) (.inl (by rfl)))))) dm_nil))))
  (ds_cons (ds_setO 4 gok0 (show 4 < 8 by decide) sc_l_texts.nd rfl (by first | exact Or.inl rfl | exact Or.inr rfl) (de_lst da_nil))
  (ds_cons (ds_for gok0 (passes_of rfl) rfl (di_rng1 T.n_range (by rfl) (da_cons (de_var 1 (pv 1) rfl) da_nil)) (dg_name 5 sc_l_texts.nd rfl (by first | exact Or.inl rfl | exact Or.inr rfl))
  (ds_cons (ds_set 6 gok0 sc_l_texts.nd rfl (by first | exact Or.inl rfl | exact Or.inr rfl) (de_m1 PySem.F.slot_str_join PySem.F.type_str_join mt_join ms_join (db_of (de_strL (by decide +kernel))) (db_own (de_lc (own := [("_law_pick", 7)]) rfl sc_l_texts.nd (di_list (de_sl (db_var 3 (pv 3) (.inl (by rfl))) (dp_some (de_op or_add os_add (db_of (de_op or_mulX os_mulX (db_of de_int) (db_var 5 (pv 5) (.inl (by rfl))))) (db_of de_int))) (dp_some (de_op or_add os_add (db_of (de_op or_mulX os_mulX (db_of de_int) (db_var 5 (pv 5) (.inl (by rfl))))) (db_of de_int))))) (blkOk_by (own := [("_law_pick", 7)]) (N := ["_law_cell_here", "_law_many", "_law_signs", "_law_row_here", "_law_texts_here", "_law_k", "_law_text", "_law_pick"]) (sc := defScope s_l_texts) (by decide +kernel)) (fun _ _ _ _ _ => (dg_name 7 sc_l_texts.nd rfl (by first | exact Or.inl rfl | exact Or.inr rfl))) (fun _ _ _ _ _ => dt_nil) (fun _ _ _ _ _ => (de_ix (db_var 2 (pv 2) (.inl (by rfl))) (db_var 7 (pv 7) (.inl (by rfl))) (fun _ _ => rfl)))))))
  (ds_one (ds_app 4 gok0 rfl (pv 4) (de_sl (db_var 6 (pv 6) (.inl (by rfl))) dp_none (dp_some (de_op or_add os_add (db_of (de_ix (db_var 3 (pv 3) (.inl (by rfl))) (db_of (de_op or_add os_add (db_of (de_op or_mulX os_mulX (db_of de_int) (db_var 5 (pv 5) (.inl (by rfl))))) (db_of de_int))) (fun _ _ => rfl))) (db_of de_int))))))))
  (ds_cons (ds_if gok0 (dt_cmp or_lt os_ord (db_of (de_ix (db_var 3 (pv 3) (.inl (by rfl))) (db_of de_int) (fun _ _ => rfl))) (db_of de_int) (nomark _))
  (ds_one (ds_sto 4 gok0 rfl (pv 4) (de_neg de_int) (de_sl (db_of (de_op or_mulX os_mulX (db_of (de_ix (db_var 4 (pv 4) (.inr (.inl (by trivial)))) (db_of (de_neg de_int)) (fun _ _ => rfl))) (db_of de_int))) dp_none (dp_some (de_op or_add os_add (db_of (de_op or_mulX os_mulX (db_of de_int) (db_of (de_ix (db_var 3 (pv 3) (.inl (by rfl))) (db_of de_int) (fun _ _ => rfl))))) (db_of de_int))))))
  ds_nil)
  (ds_pub 4 (ds_one (ds_ret gok0 rfl (de_var 4 (pv 4) rfl))) (.inl rfl))))))))
theorem ok_l_close (T : Txt K mg) : FnOk P w K mg base (L2.CX P w) 1 T.f_l_close T.fd_l_close ["_law_stack"] (spS K T.cm F_l_close)   := dokS (k := 0) T.F_l_close sc_l_close rfl (by decide) (G' := fun Ad => [.s Ad, .w, .w]) (fun _ => rfl) fun cdv A outer s H E Ad hr =>
  (ds_kw 2 rfl (ds_kw 1 rfl (ds_cons (ds_wpop 0 1 gok0 (Nat.le_of_ble_eq_true rfl) rfl (onlyS_of rfl) (by decide) sc_l_close.nd rfl (by first | exact Or.inl rfl | exact Or.inr rfl) (dw_root 0 (pv 0) rfl))
  (ds_cons (ds_ali 2 gok0 (Nat.le_of_ble_eq_true rfl) sc_l_close.nd rfl (by first | exact Or.inl rfl | exact Or.inr rfl) (dw_at 0 rfl (dw_at 0 rfl (dw_root 0 (pv 0) rfl) (de_neg de_int) (fun _ _ => rfl)) de_int (fun _ _ => rfl)))
  (ds_one (ds_wapp 0 gok0 rfl (onlyS_of rfl) (dw_var 2 (pv 2) rfl) (de_tup (da_cons (de_wix 0 rfl (dw_var 1 (pv 1) rfl) de_int (fun _ _ => rfl)) (da_cons (de_wix 0 rfl (dw_var 1 (pv 1) rfl) de_int (fun _ _ => rfl)) (da_cons (de_type call_tuple_of cs_tuple (by rfl) T.n_tuple (by decide +kernel) (dm_bor (db_row 0 rfl (dw_at 0 rfl (dw_var 1 (pv 1) rfl) de_int (fun _ _ => rfl))) dm_nil)) da_nil))))))))))
theorem ok_l_tree (T : Txt K mg) : FnOk P w K mg base (L2.CX P w) 2 T.f_l_tree T.fd_l_tree ["_law_cell_here", "_law_most", "_law_deep", "_law_kinds", "_law_marks", "_law_texts_here"] (spD K T.cm [false, false, false, false, false, false] false F_l_tree)   := dok (G' := []) (k := 1) T.F_l_tree sc_l_tree rfl (by decide) fun cdv A outer s H E hr =>
  (ds_cons (ds_set 6 gok0 sc_l_tree.nd rfl (by first | exact Or.inl rfl | exact Or.inr rfl) (de_callV (ok_l_row T) (takes_of rfl rfl rfl rfl) (hr.mono (by decide)) (by rfl) T.g_l_row T.F_l_row.kp T.b_l_row (dm_val (de_var 0 (pv 0) rfl) (dm_val (de_op or_add os_add (db_own (de_lst (da_cons (de_op or_add os_add (db_var 1 (pv 1) (.inl (by rfl))) (db_of de_int)) (da_cons de_int (da_cons de_int da_nil))))) (db_of (de_op or_mulX os_mulX (db_own (de_lst (da_cons de_int (da_cons de_int (da_cons de_int da_nil))))) (db_var 1 (pv 1) (.inl (by rfl)))))) dm_nil))))
  (ds_cons (ds_setO 7 gok0 (show 7 < 18 by decide) sc_l_tree.nd rfl (by first | exact Or.inl rfl | exact Or.inr rfl) (de_type call_list_of cs_list (by rfl) T.n_list (by decide +kernel) (dm_bor (db_var 5 (pv 5) (.inl (by rfl))) dm_nil)))
  (ds_cons (ds_setS 8 gok0 (by decide) (noSW_of rfl) sc_l_tree.nd rfl (by first | exact Or.inl rfl | exact Or.inr rfl) (dm_lit4 (de_ix (db_var 3 (pv 3) (.inl (by rfl))) (db_of de_int) (fun _ _ => rfl)) (de_ix (db_var 4 (pv 4) (.inl (by rfl))) (db_of (de_op op_mod os_mod (db_of (de_type cr_int cs_int (by rfl) T.n_int (by decide +kernel) (dm_bor (db_of (de_ix (db_var 6 (pv 6) (.inl (by rfl))) (db_of de_int) (fun _ _ => rfl))) dm_nil))) (db_of (de_bltn call_len cs_len (by rfl) T.n_len (by decide +kernel) (dm_bor (db_var 4 (pv 4) (.inl (by rfl))) dm_nil))))) (fun _ _ => rfl))))
  (ds_kw 16 rfl (ds_cons (ds_set 9 gok0 sc_l_tree.nd rfl (by first | exact Or.inl rfl | exact Or.inr rfl) (de_ix (db_var 6 (pv 6) (.inl (by rfl))) (db_of de_int) (fun _ _ => rfl)))
  (ds_cons (ds_if gok0 (dt_cmp (or_eq hr.units) os_eq (db_of (de_ix (db_var 6 (pv 6) (.inl (by rfl))) (db_of de_int) (fun _ _ => rfl))) (db_of de_int) (nomark _))
  (ds_one (ds_set 9 gok0 sc_l_tree.nd rfl (by first | exact Or.inl rfl | exact Or.inr rfl) (de_var 1 (pv 1) rfl)))
  ds_nil)
  (ds_cons (ds_for gok0 (passes_of rfl) rfl (di_rng1 T.n_range (by rfl) (da_cons (de_var 9 (pv 9) rfl) da_nil)) (dg_name 10 sc_l_tree.nd rfl (by first | exact Or.inl rfl | exact Or.inr rfl))
  (ds_cons (ds_asg gok0 (de_sl (db_var 6 (pv 6) (.inl (by rfl))) (dp_some (de_op or_add os_add (db_of (de_op or_mulX os_mulX (db_of de_int) (db_var 10 (pv 10) (.inl (by rfl))))) (db_of de_int))) (dp_some (de_op or_add os_add (db_of (de_op or_mulX os_mulX (db_of de_int) (db_var 10 (pv 10) (.inl (by rfl))))) (db_of de_int)))) (dg_lst rfl (dg_cons (dg_name 11 sc_l_tree.nd rfl (by first | exact Or.inl rfl | exact Or.inr rfl)) (dg_cons (dg_name 12 sc_l_tree.nd rfl (by first | exact Or.inl rfl | exact Or.inr rfl)) (dg_cons (dg_name 13 sc_l_tree.nd rfl (by first | exact Or.inl rfl | exact Or.inr rfl)) dg_nil)))))
  (ds_cons (ds_set 14 gok0 sc_l_tree.nd rfl (by first | exact Or.inl rfl | exact Or.inr rfl) (de_ix (db_var 3 (pv 3) (.inl (by rfl))) (db_of (de_op op_mod os_mod (db_of (de_type cr_int cs_int (by rfl) T.n_int (by decide +kernel) (dm_bor (db_var 12 (pv 12) (.inl (by rfl))) dm_nil))) (db_of (de_bltn call_len cs_len (by rfl) T.n_len (by decide +kernel) (dm_bor (db_var 3 (pv 3) (.inl (by rfl))) dm_nil))))) (fun _ _ => rfl)))
  (ds_cons (ds_set 15 gok0 sc_l_tree.nd rfl (by first | exact Or.inl rfl | exact Or.inr rfl) (de_ix (db_var 4 (pv 4) (.inl (by rfl))) (db_of (de_op op_mod os_mod (db_of (de_type cr_int cs_int (by rfl) T.n_int (by decide +kernel) (dm_bor (db_var 13 (pv 13) (.inl (by rfl))) dm_nil))) (db_of (de_bltn call_len cs_len (by rfl) T.n_len (by decide +kernel) (dm_bor (db_var 4 (pv 4) (.inl (by rfl))) dm_nil))))) (fun _ _ => rfl)))
  (ds_cons (ds_if gok0 (PW.pt (dw_and (dt_cmp (or_eq hr.units) os_eq (db_of (de_ix (db_var 6 (pv 6) (.inl (by rfl))) (db_of de_int) (fun _ _ => rfl))) (db_of de_int) (nomark _)) (dw_and1 (dt_cmp or_lt os_ord (db_var 10 (pv 10) (.inl (by rfl))) (db_of (de_op op_sub os_sub (db_var 2 (pv 2) (.inl (by rfl))) (db_of de_int))) (nomark _)))))
  (ds_one (ds_set 11 gok0 sc_l_tree.nd rfl (by first | exact Or.inl rfl | exact Or.inr rfl) de_int))
  ds_nil)
  (ds_cons (ds_if gok0 (dt_cmp (or_eq hr.units) os_eq (db_of (de_ix (db_var 6 (pv 6) (.inl (by rfl))) (db_of de_int) (fun _ _ => rfl))) (db_of de_int) (nomark _))
  (ds_one (ds_set 11 gok0 sc_l_tree.nd rfl (by first | exact Or.inl rfl | exact Or.inr rfl) (de_op or_add os_add (db_of de_int) (db_of (de_op op_mod os_mod (db_of (de_type cr_int cs_int (by rfl) T.n_int (by decide +kernel) (dm_bor (db_var 11 (pv 11) (.inl (by rfl))) dm_nil))) (db_of de_int))))))
  ds_nil)
  (ds_cons (ds_if gok0 (dt_cmp (or_eq hr.units) os_eq (db_of (de_ix (db_var 6 (pv 6) (.inl (by rfl))) (db_of de_int) (fun _ _ => rfl))) (db_of de_int) (nomark _))
  (ds_one (ds_set 11 gok0 sc_l_tree.nd rfl (by first | exact Or.inl rfl | exact Or.inr rfl) (de_op or_add os_add (db_of de_int) (db_of (de_op op_mod os_mod (db_of (de_type cr_int cs_int (by rfl) T.n_int (by decide +kernel) (dm_bor (db_var 11 (pv 11) (.inl (by rfl))) dm_nil))) (db_of de_int))))))
  ds_nil)
  (ds_cons (ds_ali 16 gok0 (Nat.le_of_ble_eq_true rfl) sc_l_tree.nd rfl (by first | exact Or.inl rfl | exact Or.inr rfl) (dw_at 8 rfl (dw_at 8 rfl (dw_root 8 (pv 8) rfl) (de_neg de_int) (fun _ _ => rfl)) de_int (fun _ _ => rfl)))
  (ds_one (ds_if gok0 (PW.pt (dw_and (dt_cmp or_lt os_ord (db_var 11 (pv 11) (.inl (by rfl))) (db_of de_int) (nomark _)) (dw_and1 (dt_cmp or_gt os_ord (db_of (de_wlen 8 rfl T.n_len (by rfl) (dw_root 8 (pv 8) rfl))) (db_of de_int) (nomark _)))))
  (ds_one (ds_callS 8 (ok_l_close T) (takes_of rfl rfl rfl rfl) (hr.mono (by decide)) (by rfl) T.g_l_close T.F_l_close.kp T.b_l_close rfl (onlyS_of rfl) (pv 8)))
  (ds_one (ds_if gok0 (dt_cmp or_lt os_ord (db_var 11 (pv 11) (.inl (by rfl))) (db_of de_int) (nomark _))
  (ds_one (ds_if gok0 (PW.pt (dw_or (dt_cmp (or_eq hr.units) os_eq (db_of (de_bltn call_len cs_len (by rfl) T.n_len (by decide +kernel) (dm_bor (db_row 8 rfl (dw_var 16 (pv 16) rfl)) dm_nil))) (db_of de_int) (nomark _)) (dw_or1 (dt_not (dt_val (de_isi "str" T.n_isinstance (by rfl) (by rfl) T.n_str (by decide +kernel) (db_of (de_ix (db_row 8 rfl (dw_var 16 (pv 16) rfl)) (db_of (de_neg de_int)) (fun _ _ => rfl)))))))))
  (ds_cons (ds_set 17 gok0 sc_l_tree.nd rfl (by first | exact Or.inl rfl | exact Or.inr rfl) (de_op op_mod os_mod (db_of (de_type cr_int cs_int (by rfl) T.n_int (by decide +kernel) (dm_bor (db_var 12 (pv 12) (.inl (by rfl))) dm_nil))) (db_of (de_bltn call_len cs_len (by rfl) T.n_len (by decide +kernel) (dm_bor (db_var 7 (pv 7) (.inr (.inl (by trivial)))) dm_nil)))))
  (ds_cons (ds_wapp 8 gok0 rfl (onlyS_of rfl) (dw_var 16 (pv 16) rfl) (de_ix (db_var 7 (pv 7) (.inr (.inl (by trivial)))) (db_var 17 (pv 17) (.inl (by rfl))) (fun _ _ => rfl)))
  (ds_one (ds_if gok0 (dt_cmp (or_eq hr.units) os_eq (db_var 17 (pv 17) (.inl (by rfl))) (db_of (de_op op_sub os_sub (db_of (de_bltn call_len cs_len (by rfl) T.n_len (by decide +kernel) (dm_bor (db_var 7 (pv 7) (.inr (.inl (by trivial)))) dm_nil))) (db_of de_int))) (nomark _))
  (ds_one (ds_sto 7 gok0 rfl (pv 7) (de_var 17 (pv 17) rfl) (de_ix (db_var 7 (pv 7) (.inr (.inl (by trivial)))) (db_of de_int) (fun _ _ => rfl))))
  ds_nil))))
  ds_nil))
  (ds_one (ds_if gok0 (PW.pt (dw_or (dt_cmp or_lt os_ord (db_var 11 (pv 11) (.inl (by rfl))) (db_of de_int) (nomark _)) (dw_or1 (dt_cmp or_ge os_ord (db_of (de_wlen 8 rfl T.n_len (by rfl) (dw_root 8 (pv 8) rfl))) (db_var 2 (pv 2) (.inl (by rfl))) (nomark _)))))
  (ds_one (ds_wapp 8 gok0 rfl (onlyS_of rfl) (dw_var 16 (pv 16) rfl) (de_tup (da_cons (de_var 14 (pv 14) rfl) (da_cons (de_var 15 (pv 15) rfl) (da_cons (de_tup da_nil) da_nil))))))
  (ds_one (ds_wappN 8 gok0 rfl (onlyS_of rfl) (dw_root 8 (pv 8) rfl) (dm_lit3 (de_var 14 (pv 14) rfl) (de_var 15 (pv 15) rfl))))))))))))))))))
  (ds_cons (ds_for gok0 (passes_of rfl) rfl (di_rng1 T.n_range (by rfl) (da_cons (de_op op_sub os_sub (db_of (de_wlen 8 rfl T.n_len (by rfl) (dw_root 8 (pv 8) rfl))) (db_of de_int)) da_nil)) (dg_name 10 sc_l_tree.nd rfl (by first | exact Or.inl rfl | exact Or.inr rfl))
  (ds_one (ds_callS 8 (ok_l_close T) (takes_of rfl rfl rfl rfl) (hr.mono (by decide)) (by rfl) T.g_l_close T.F_l_close.kp T.b_l_close rfl (onlyS_of rfl) (pv 8))))
  (ds_one (ds_ret gok0 rfl (de_tup (da_cons (de_wix 8 rfl (dw_at 8 rfl (dw_root 8 (pv 8) rfl) de_int (fun _ _ => rfl)) de_int (fun _ _ => rfl)) (da_cons (de_wix 8 rfl (dw_at 8 rfl (dw_root 8 (pv 8) rfl) de_int (fun _ _ => rfl)) de_int (fun _ _ => rfl)) (da_cons (de_type call_tuple_of cs_tuple (by rfl) T.n_tuple (by decide +kernel) (dm_bor (db_row 8 rfl (dw_at 8 rfl (dw_at 8 rfl (dw_root 8 (pv 8) rfl) de_int (fun _ _ => rfl)) de_int (fun _ _ => rfl))) dm_nil)) da_nil))))))))))))))
theorem ok_l_nodes (T : Txt K mg) : FnOk P w K mg base (L2.CX P w) 1 T.f_l_nodes T.fd_l_nodes ["_law_tree_here"] (spD K T.cm [false] false F_l_nodes)   := dok (G' := []) (k := 0) T.F_l_nodes sc_l_nodes rfl (by decide) fun cdv A outer s H E hr =>
  (ds_cons (ds_setO 1 gok0 (show 1 < 6 by decide) sc_l_nodes.nd rfl (by first | exact Or.inl rfl | exact Or.inr rfl) (de_lst da_nil))
  (ds_cons (ds_setO 2 gok0 (show 2 < 6 by decide) sc_l_nodes.nd rfl (by first | exact Or.inl rfl | exact Or.inr rfl) (de_lst (da_cons (de_tup (da_cons (de_tup da_nil) (da_cons (de_var 0 (pv 0) rfl) da_nil))) da_nil)))
  (ds_cons (ds_while 100000 gok0 (passes_of rfl) (dt_cmp or_gt os_ord (db_of (de_bltn call_len cs_len (by rfl) T.n_len (by decide +kernel) (dm_bor (db_var 2 (pv 2) (.inr (.inl (by trivial)))) dm_nil))) (db_of de_int) (nomark _))
  (ds_cons (ds_pop 2 gok0 rfl (pv 2) (dg_tup rfl (dg_cons (dg_name 3 sc_l_nodes.nd rfl (by first | exact Or.inl rfl | exact Or.inr rfl)) (dg_cons (dg_name 4 sc_l_nodes.nd rfl (by first | exact Or.inl rfl | exact Or.inr rfl)) dg_nil))))
  (ds_cons (ds_app 1 gok0 rfl (pv 1) (de_tup (da_cons (de_var 3 (pv 3) rfl) (da_cons (de_var 4 (pv 4) rfl) da_nil))))
  (ds_one (ds_if gok0 (dt_not (dt_val (de_isi "str" T.n_isinstance (by rfl) (by rfl) T.n_str (by decide +kernel) (db_var 4 (pv 4) (.inl (by rfl))))))
  (ds_one (ds_for gok0 (passes_of rfl) rfl (di_rng3 T.n_range (by rfl) (da_cons (de_op op_sub os_sub (db_of (de_bltn call_len cs_len (by rfl) T.n_len (by decide +kernel) (dm_bor (db_of (de_ix (db_var 4 (pv 4) (.inl (by rfl))) (db_of de_int) (fun _ _ => rfl))) dm_nil))) (db_of de_int)) (da_cons (de_neg de_int) (da_cons (de_neg de_int) da_nil)))) (dg_name 5 sc_l_nodes.nd rfl (by first | exact Or.inl rfl | exact Or.inr rfl))
  (ds_one (ds_app 2 gok0 rfl (pv 2) (de_tup (da_cons (de_op or_add os_add (db_var 3 (pv 3) (.inl (by rfl))) (db_of (de_tup (da_cons (de_var 5 (pv 5) rfl) da_nil)))) (da_cons (de_ix (db_of (de_ix (db_var 4 (pv 4) (.inl (by rfl))) (db_of de_int) (fun _ _ => rfl))) (db_var 5 (pv 5) (.inl (by rfl))) (fun _ _ => rfl)) da_nil)))))))
  ds_nil)))))
  (ds_pub 1 (ds_one (ds_ret gok0 rfl (de_var 1 (pv 1) rfl))) (.inl rfl)))))
theorem ok_l_asked (T : Txt K mg) : FnOk P w K mg base (L2.CX P w) 6 T.f_l_asked T.fd_l_asked ["_law_tree_here", "_law_place"] (spD K T.cm [false, false] false F_l_asked)   := dok (G' := []) (k := 5) T.F_l_asked sc_l_asked rfl (by decide) fun cdv A outer s H E hr =>
  (ds_cons (ds_try (isM := isM_LaidError) (Gs := [.v, .v, .v]) gok0 rfl rfl sc_l_asked.nd rfl rfl ⟨by rfl, by decide, .inl T.g_LaidError⟩ (takes_of rfl rfl rfl rfl) (by decide) T.exm_LaidError (fun W pn xe tk po => (ds_one (ds_ret gokT rfl (de_tup (da_cons (de_strL (by decide +kernel)) (da_cons (de_callV (ok_elder_of T) tk (hr.mono (by decide)) (by rfl) T.g_elder_of T.F_elder_of.kp T.b_elder_of (dm_val (de_var 0 (pv 0) rfl) (dm_val (de_var 1 (pv 1) rfl) dm_nil))) da_nil))))))
  (fun a C dd oe pn hin hz hf => (ds_one (ds_if gokC (PW.pt (dw_and (dt_val (de_isX (v := .ref T.a_NoPlace) (cv := .ref T.a_NoPlace) (isM := isM_NoPlace) rfl (T.xc_of_LaidError hin) hz hf (fun _ h => h) (fun n b h1 h2 => T.isi_NoPlace n _ b h1 h2) T.n_isinstance (by rfl) (pv 2) (pe_glob (by rfl) T.g_NoPlace rfl))) (dw_and (dt_val (de_isX (v := .ty "ValueError") (cv := .type "ValueError") (isM := isM_ValueError) rfl (T.xc_of_LaidError hin) hz hf (fun _ h => h) (fun n b h1 h2 => T.isi_ValueError n _ b h1 h2) T.n_isinstance (by rfl) (pv 2) (pe_bltn (u := .type "ValueError") (by rfl) T.n_ValueError (by decide +kernel) rfl))) (dw_and1 (dt_not (dt_val (de_isX (v := .ref T.a_Strange) (cv := .ref T.a_Strange) (isM := isM_Strange) rfl (T.xc_of_LaidError hin) hz hf (fun _ h => h) (fun n b h1 h2 => T.isi_Strange n _ b h1 h2) T.n_isinstance (by rfl) (pv 2) (pe_glob (by rfl) T.g_Strange rfl))))))))
  (ds_one (ds_ret gokC rfl (de_tup (da_cons (de_strL (by decide +kernel)) (da_cons (de_xf (T.xf_of_LaidError hin) (T.no_of_LaidError_place hin) rfl hz hf (pv 2)) da_nil)))))
  ds_nil))) rfl rfl)
  (ds_one (ds_ret gok0 rfl (de_tup (da_cons (de_strL (by decide +kernel)) (da_cons de_int da_nil))))))
theorem ok_l_elders (T : Txt K mg) : FnOk P w K mg base (L2.CX P w) 7 T.f_l_elders T.fd_l_elders ["_law_tree_here", "_law_far"] (spD K T.cm [false, false] false F_l_elders)   := dok (G' := []) (k := 6) T.F_l_elders sc_l_elders rfl (by decide) fun cdv A outer s H E hr =>
  (ds_cons (ds_if gok0 (dt_not (dt_val (de_callV (ok_l_same (n := 4) T) (takes_of rfl rfl rfl rfl) (hr.mono (by decide)) (by rfl) T.g_l_same T.F_l_same.kp T.b_l_same (dm_val (de_callV (ok_l_asked T) (takes_of rfl rfl rfl rfl) (hr.mono (by decide)) (by rfl) T.g_l_asked T.F_l_asked.kp T.b_l_asked (dm_val (de_var 0 (pv 0) rfl) (dm_val (de_tup da_nil) dm_nil))) (dm_val (de_tup (da_cons (de_strL (by decide +kernel)) (da_cons de_non da_nil))) dm_nil)))))
  (ds_one (ds_ret gok0 rfl de_bl))
  ds_nil)
  (ds_cons (ds_for gok0 (passes_of rfl) rfl (di_list (de_callV (ok_l_nodes T) (takes_of rfl rfl rfl rfl) (hr.mono (by decide)) (by rfl) T.g_l_nodes T.F_l_nodes.kp T.b_l_nodes (dm_val (de_var 0 (pv 0) rfl) dm_nil))) (dg_tup rfl (dg_cons (dg_name 2 sc_l_elders.nd rfl (by first | exact Or.inl rfl | exact Or.inr rfl)) (dg_cons (dg_name 3 sc_l_elders.nd rfl (by first | exact Or.inl rfl | exact Or.inr rfl)) dg_nil)))
  (ds_cons (ds_if gok0 (dt_val (de_isi "str" T.n_isinstance (by rfl) (by rfl) T.n_str (by decide +kernel) (db_var 3 (pv 3) (.inl (by rfl)))))
  (ds_one ds_cont)
  ds_nil)
  (ds_cons (ds_set 4 gok0 sc_l_elders.nd rfl (by first | exact Or.inl rfl | exact Or.inr rfl) de_non)
  (ds_cons (ds_for gok0 (passes_of rfl) rfl (di_rng1 T.n_range (by rfl) (da_cons (de_bltn call_len cs_len (by rfl) T.n_len (by decide +kernel) (dm_bor (db_of (de_ix (db_var 3 (pv 3) (.inl (by rfl))) (db_of de_int) (fun _ _ => rfl))) dm_nil)) da_nil)) (dg_name 5 sc_l_elders.nd rfl (by first | exact Or.inl rfl | exact Or.inr rfl))
  (ds_cons (ds_set 6 gok0 sc_l_elders.nd rfl (by first | exact Or.inl rfl | exact Or.inr rfl) (de_op or_add os_add (db_var 2 (pv 2) (.inl (by rfl))) (db_of (de_tup (da_cons (de_var 5 (pv 5) rfl) da_nil)))))
  (ds_cons (ds_set 7 gok0 sc_l_elders.nd rfl (by first | exact Or.inl rfl | exact Or.inr rfl) (de_tup (da_cons (de_strL (by decide +kernel)) (da_cons (de_var 4 (pv 4) rfl) da_nil))))
  (ds_cons (ds_set 8 gok0 sc_l_elders.nd rfl (by first | exact Or.inl rfl | exact Or.inr rfl) (de_op or_add os_add (db_var 6 (pv 6) (.inl (by rfl))) (db_of (de_tup (da_cons (de_var 1 (pv 1) rfl) da_nil)))))
  (ds_cons (ds_if gok0 (dt_val (de_isi "str" T.n_isinstance (by rfl) (by rfl) T.n_str (by decide +kernel) (db_of (de_ix (db_of (de_ix (db_var 3 (pv 3) (.inl (by rfl))) (db_of de_int) (fun _ _ => rfl))) (db_var 5 (pv 5) (.inl (by rfl))) (fun _ _ => rfl)))))
  (ds_cons (ds_set 7 gok0 sc_l_elders.nd rfl (by first | exact Or.inl rfl | exact Or.inr rfl) (de_tup (da_cons (de_strL (by decide +kernel)) (da_cons (de_var 6 (pv 6) rfl) da_nil))))
  (ds_one (ds_if gok0 (PW.pt (dw_and (dt_cmp or_lt os_ord (db_of (de_bltn call_len cs_len (by rfl) T.n_len (by decide +kernel) (dm_bor (db_var 6 (pv 6) (.inl (by rfl))) dm_nil))) (db_of de_int) (nomark _)) (dw_and1 (dt_not (dt_val (de_callV (ok_l_same (n := 4) T) (takes_of rfl rfl rfl rfl) (hr.mono (by decide)) (by rfl) T.g_l_same T.F_l_same.kp T.b_l_same (dm_val (de_callV (ok_l_asked T) (takes_of rfl rfl rfl rfl) (hr.mono (by decide)) (by rfl) T.g_l_asked T.F_l_asked.kp T.b_l_asked (dm_val (de_var 0 (pv 0) rfl) (dm_val (de_var 8 (pv 8) rfl) dm_nil))) (dm_val (de_tup (da_cons (de_strL (by decide +kernel)) (da_cons (de_var 8 (pv 8) rfl) da_nil))) dm_nil))))))))
  (ds_one (ds_ret gok0 rfl de_bl))
  ds_nil)))
  (ds_one (ds_set 4 gok0 sc_l_elders.nd rfl (by first | exact Or.inl rfl | exact Or.inr rfl) (de_var 6 (pv 6) rfl))))
  (ds_one (ds_if gok0 (dt_not (dt_val (de_callV (ok_l_same (n := 4) T) (takes_of rfl rfl rfl rfl) (hr.mono (by decide)) (by rfl) T.g_l_same T.F_l_same.kp T.b_l_same (dm_val (de_callV (ok_l_asked T) (takes_of rfl rfl rfl rfl) (hr.mono (by decide)) (by rfl) T.g_l_asked T.F_l_asked.kp T.b_l_asked (dm_val (de_var 0 (pv 0) rfl) (dm_val (de_var 6 (pv 6) rfl) dm_nil))) (dm_val (de_var 7 (pv 7) rfl) dm_nil)))))
  (ds_one (ds_ret gok0 rfl de_bl))
  ds_nil)))))))
  (ds_cons (ds_set 9 gok0 sc_l_elders.nd rfl (by first | exact Or.inl rfl | exact Or.inr rfl) (de_op or_add os_add (db_var 2 (pv 2) (.inl (by rfl))) (db_of (de_tup (da_cons (de_op or_add os_add (db_of (de_bltn call_len cs_len (by rfl) T.n_len (by decide +kernel) (dm_bor (db_of (de_ix (db_var 3 (pv 3) (.inl (by rfl))) (db_of de_int) (fun _ _ => rfl))) dm_nil))) (db_var 1 (pv 1) (.inl (by rfl)))) da_nil)))))
  (ds_one (ds_if gok0 (PW.pt (dw_and (dt_cmp or_lt os_ord (db_of (de_bltn call_len cs_len (by rfl) T.n_len (by decide +kernel) (dm_bor (db_var 2 (pv 2) (.inl (by rfl))) dm_nil))) (db_of de_int) (nomark _)) (dw_and1 (dt_not (dt_val (de_callV (ok_l_same (n := 4) T) (takes_of rfl rfl rfl rfl) (hr.mono (by decide)) (by rfl) T.g_l_same T.F_l_same.kp T.b_l_same (dm_val (de_callV (ok_l_asked T) (takes_of rfl rfl rfl rfl) (hr.mono (by decide)) (by rfl) T.g_l_asked T.F_l_asked.kp T.b_l_asked (dm_val (de_var 0 (pv 0) rfl) (dm_val (de_var 9 (pv 9) rfl) dm_nil))) (dm_val (de_tup (da_cons (de_strL (by decide +kernel)) (da_cons (de_var 9 (pv 9) rfl) da_nil))) dm_nil))))))))
  (ds_one (ds_ret gok0 rfl de_bl))
  ds_nil)))))))
  (ds_one (ds_ret gok0 rfl de_bl))))
theorem ok_law (T : Txt K mg) : FnOk P w K mg base (L2.CX P w) 8 T.f_law T.fd_law ["_law_script"] (spD K T.cm [false] false F_law)   := dok (G' := []) (k := 7) T.F_law sc_law rfl (by decide) fun cdv A outer s H E hr =>
  (ds_cons (ds_set 1 gok0 sc_law.nd rfl (by first | exact Or.inl rfl | exact Or.inr rfl) (de_callV (ok_l_names T) (takes_of rfl rfl rfl rfl) (hr.mono (by decide)) (by rfl) T.g_l_names T.F_l_names.kp T.b_l_names (dm_val (de_callV (ok_l_cell T) (takes_of rfl rfl rfl rfl) (hr.mono (by decide)) (by rfl) T.g_l_cell T.F_l_cell.kp T.b_l_cell (dm_val (de_var 0 (pv 0) rfl) (dm_val de_int dm_nil))) (dm_val de_int dm_nil))))
  (ds_cons (ds_set 2 gok0 sc_law.nd rfl (by first | exact Or.inl rfl | exact Or.inr rfl) (de_callV (ok_l_texts T) (takes_of rfl rfl rfl rfl) (hr.mono (by decide)) (by rfl) T.g_l_texts T.F_l_texts.kp T.b_l_texts (dm_val (de_callV (ok_l_cell T) (takes_of rfl rfl rfl rfl) (hr.mono (by decide)) (by rfl) T.g_l_cell T.F_l_cell.kp T.b_l_cell (dm_val (de_var 0 (pv 0) rfl) (dm_val de_int dm_nil))) (dm_val de_int dm_nil))))
  (ds_cons (ds_set 3 gok0 sc_law.nd rfl (by first | exact Or.inl rfl | exact Or.inr rfl) (de_pub (de_lst (da_cons (de_strL (by decide +kernel)) (da_cons (de_ix (db_var 1 (pv 1) (.inl (by rfl))) (db_of de_int) (fun _ _ => rfl)) (da_cons (de_ix (db_var 1 (pv 1) (.inl (by rfl))) (db_of de_int) (fun _ _ => rfl)) (da_cons (de_ix (db_var 1 (pv 1) (.inl (by rfl))) (db_of de_int) (fun _ _ => rfl)) da_nil)))))))
  (ds_cons (ds_set 4 gok0 sc_law.nd rfl (by first | exact Or.inl rfl | exact Or.inr rfl) (de_op op_mod os_mod (db_of (de_type cr_int cs_int (by rfl) T.n_int (by decide +kernel) (dm_bor (db_of (de_callV (ok_l_cell T) (takes_of rfl rfl rfl rfl) (hr.mono (by decide)) (by rfl) T.g_l_cell T.F_l_cell.kp T.b_l_cell (dm_val (de_var 0 (pv 0) rfl) (dm_val de_int dm_nil)))) dm_nil))) (db_of (de_op op_pow os_pow (db_of de_int) (db_of de_int)))))
  (ds_cons (ds_set 5 gok0 sc_law.nd rfl (by first | exact Or.inl rfl | exact Or.inr rfl) (de_callV (ok_l_tree T) (takes_of rfl rfl rfl rfl) (hr.mono (by decide)) (by rfl) T.g_l_tree T.F_l_tree.kp T.b_l_tree (dm_val (de_callV (ok_l_cell T) (takes_of rfl rfl rfl rfl) (hr.mono (by decide)) (by rfl) T.g_l_cell T.F_l_cell.kp T.b_l_cell (dm_val (de_var 0 (pv 0) rfl) (dm_val de_int dm_nil))) (dm_val de_int (dm_val de_int (dm_val (de_sl (db_var 1 (pv 1) (.inl (by rfl))) dp_none (dp_some de_int)) (dm_val (de_var 3 (pv 3) rfl) (dm_val (de_var 2 (pv 2) rfl) dm_nil))))))))
  (ds_cons (ds_set 6 gok0 sc_law.nd rfl (by first | exact Or.inl rfl | exact Or.inr rfl) (de_callV (ok_l_tree T) (takes_of rfl rfl rfl rfl) (hr.mono (by decide)) (by rfl) T.g_l_tree T.F_l_tree.kp T.b_l_tree (dm_val (de_callV (ok_l_cell T) (takes_of rfl rfl rfl rfl) (hr.mono (by decide)) (by rfl) T.g_l_cell T.F_l_cell.kp T.b_l_cell (dm_val (de_var 0 (pv 0) rfl) (dm_val de_int dm_nil))) (dm_val de_int (dm_val de_int (dm_val (de_sl (db_var 1 (pv 1) (.inl (by rfl))) dp_none (dp_some de_int)) (dm_val (de_var 3 (pv 3) rfl) (dm_val (de_var 2 (pv 2) rfl) dm_nil))))))))
  (ds_cons (ds_for gok0 (passes_of rfl) rfl (di_list (de_pub (de_lst (da_cons (de_var 5 (pv 5) rfl) (da_cons (de_var 6 (pv 6) rfl) (da_cons (de_var 5 (pv 5) rfl) da_nil)))))) (dg_name 7 sc_law.nd rfl (by first | exact Or.inl rfl | exact Or.inr rfl))
  (ds_one (ds_if gok0 (dt_not (dt_val (de_callV (ok_l_elders T) (takes_of rfl rfl rfl rfl) (hr.mono (by decide)) (by rfl) T.g_l_elders T.F_l_elders.kp T.b_l_elders (dm_val (de_var 7 (pv 7) rfl) (dm_val (de_var 4 (pv 4) rfl) dm_nil)))))
  (ds_one (ds_ret gok0 rfl de_bl))
  ds_nil)))
  (ds_one (ds_ret gok0 rfl de_bl)))))))))
end
end Lk
end S_P_walk
section S_P_end
set_option Elab.async false
set_option linter.all false
set_option maxRecDepth 100000
set_option maxHeartbeats 4000000
namespace Lk
open PySem L2 Dx PySem.Spec PyProof.Rows
theorem txt_mk {K : PySem.W.Frag} {h : Heap} {mg : Str → Option Value} (X : K.In h) (G : h.Ns mainGlobals mg)
    {f0 : Addr} {oc0 kV0 dc0 pm0 cd0 ct0 : Value} {od0 an0 : Option Addr} {sl0 : Array (Option Value)}
    {f1 : Addr} {oc1 kV1 dc1 pm1 cd1 ct1 : Value} {od1 an1 : Option Addr} {sl1 : Array (Option Value)}
    {f2 : Addr} {oc2 kV2 dc2 pm2 cd2 ct2 : Value} {od2 an2 : Option Addr} {sl2 : Array (Option Value)}
    {f3 : Addr} {oc3 kV3 dc3 pm3 cd3 ct3 : Value} {od3 an3 : Option Addr} {sl3 : Array (Option Value)}
    {f4 : Addr} {oc4 kV4 dc4 pm4 cd4 ct4 : Value} {od4 an4 : Option Addr} {sl4 : Array (Option Value)}
    {f5 : Addr} {oc5 kV5 dc5 pm5 cd5 ct5 : Value} {od5 an5 : Option Addr} {sl5 : Array (Option Value)}
    {f6 : Addr} {oc6 kV6 dc6 pm6 cd6 ct6 : Value} {od6 an6 : Option Addr} {sl6 : Array (Option Value)}
    {f7 : Addr} {oc7 kV7 dc7 pm7 cd7 ct7 : Value} {od7 an7 : Option Addr} {sl7 : Array (Option Value)}
    {f8 : Addr} {oc8 kV8 dc8 pm8 cd8 ct8 : Value} {od8 an8 : Option Addr} {sl8 : Array (Option Value)}
    {f9 : Addr} {oc9 kV9 dc9 pm9 cd9 ct9 : Value} {od9 an9 : Option Addr} {sl9 : Array (Option Value)}
    {f10 : Addr} {oc10 kV10 dc10 pm10 cd10 ct10 : Value} {od10 an10 : Option Addr} {sl10 : Array (Option Value)}
    {f11 : Addr} {oc11 kV11 dc11 pm11 cd11 ct11 : Value} {od11 an11 : Option Addr} {sl11 : Array (Option Value)}
    {f12 : Addr} {oc12 kV12 dc12 pm12 cd12 ct12 : Value} {od12 an12 : Option Addr} {sl12 : Array (Option Value)}
    {f13 : Addr} {oc13 kV13 dc13 pm13 cd13 ct13 : Value} {od13 an13 : Option Addr} {sl13 : Array (Option Value)}
    {A_LaidError : Addr}
    {A_NoPlace : Addr}
    {A_Strange : Addr}
    {nm_NoPlace qq_NoPlace : Str} {N_NoPlace fI_NoPlace : Addr} {bs_NoPlace bm_NoPlace : List Value} {sn_NoPlace : List Str} {sb_NoPlace : List Value} {ab_NoPlace : Bool} {co_NoPlace : Option Bool} {dd_NoPlace od_NoPlace an_NoPlace : Option Addr} {m0_NoPlace m1_NoPlace m2_NoPlace m3_NoPlace m5_NoPlace : Option Value} {oc_NoPlace kV_NoPlace dc_NoPlace pm_NoPlace cd_NoPlace ct_NoPlace : Value} {sl_NoPlace : Array (Option Value)}
    (a0 : PySem.W.nsIn K mainGlobals "node_at" = some (some (.ref f0)))
    (l0 : K.lookup f0 = some ⟨oc0, od0, .func (PySem.W.fnOf "node_at" "node_at" (defArgs s_node_at) (defBody s_node_at) (defScope s_node_at) .none kV0 dc0 pm0 an0 cd0 ct0), sl0⟩) (c0 : PySem.W.codeIn K cd0 "node_at" = true) (k0 : PySem.W.keepIn K (.ref f0) = true)
    (a1 : PySem.W.nsIn K mainGlobals "element_at" = some (some (.ref f1)))
    (l1 : K.lookup f1 = some ⟨oc1, od1, .func (PySem.W.fnOf "element_at" "element_at" (defArgs s_element_at) (defBody s_element_at) (defScope s_element_at) .none kV1 dc1 pm1 an1 cd1 ct1), sl1⟩) (c1 : PySem.W.codeIn K cd1 "element_at" = true) (k1 : PySem.W.keepIn K (.ref f1) = true)
    (a2 : PySem.W.nsIn K mainGlobals "elder_of" = some (some (.ref f2)))
    (l2 : K.lookup f2 = some ⟨oc2, od2, .func (PySem.W.fnOf "elder_of" "elder_of" (defArgs s_elder_of) (defBody s_elder_of) (defScope s_elder_of) .none kV2 dc2 pm2 an2 cd2 ct2), sl2⟩) (c2 : PySem.W.codeIn K cd2 "elder_of" = true) (k2 : PySem.W.keepIn K (.ref f2) = true)
    (a3 : PySem.W.nsIn K mainGlobals "_law_cell" = some (some (.ref f3)))
    (l3 : K.lookup f3 = some ⟨oc3, od3, .func (PySem.W.fnOf "_law_cell" "_law_cell" (defArgs s_l_cell) (defBody s_l_cell) (defScope s_l_cell) .none kV3 dc3 pm3 an3 cd3 ct3), sl3⟩) (c3 : PySem.W.codeIn K cd3 "_law_cell" = true) (k3 : PySem.W.keepIn K (.ref f3) = true)
    (a4 : PySem.W.nsIn K mainGlobals "_law_row" = some (some (.ref f4)))
    (l4 : K.lookup f4 = some ⟨oc4, od4, .func (PySem.W.fnOf "_law_row" "_law_row" (defArgs s_l_row) (defBody s_l_row) (defScope s_l_row) .none kV4 dc4 pm4 an4 cd4 ct4), sl4⟩) (c4 : PySem.W.codeIn K cd4 "_law_row" = true) (k4 : PySem.W.keepIn K (.ref f4) = true)
    (a5 : PySem.W.nsIn K mainGlobals "_law_same" = some (some (.ref f5)))
    (l5 : K.lookup f5 = some ⟨oc5, od5, .func (PySem.W.fnOf "_law_same" "_law_same" (defArgs s_l_same) (defBody s_l_same) (defScope s_l_same) .none kV5 dc5 pm5 an5 cd5 ct5), sl5⟩) (c5 : PySem.W.codeIn K cd5 "_law_same" = true) (k5 : PySem.W.keepIn K (.ref f5) = true)
    (a6 : PySem.W.nsIn K mainGlobals "_law_names" = some (some (.ref f6)))
    (l6 : K.lookup f6 = some ⟨oc6, od6, .func (PySem.W.fnOf "_law_names" "_law_names" (defArgs s_l_names) (defBody s_l_names) (defScope s_l_names) .none kV6 dc6 pm6 an6 cd6 ct6), sl6⟩) (c6 : PySem.W.codeIn K cd6 "_law_names" = true) (k6 : PySem.W.keepIn K (.ref f6) = true)
    (a7 : PySem.W.nsIn K mainGlobals "_law_texts" = some (some (.ref f7)))
    (l7 : K.lookup f7 = some ⟨oc7, od7, .func (PySem.W.fnOf "_law_texts" "_law_texts" (defArgs s_l_texts) (defBody s_l_texts) (defScope s_l_texts) .none kV7 dc7 pm7 an7 cd7 ct7), sl7⟩) (c7 : PySem.W.codeIn K cd7 "_law_texts" = true) (k7 : PySem.W.keepIn K (.ref f7) = true)
    (a8 : PySem.W.nsIn K mainGlobals "_law_close" = some (some (.ref f8)))
    (l8 : K.lookup f8 = some ⟨oc8, od8, .func (PySem.W.fnOf "_law_close" "_law_close" (defArgs s_l_close) (defBody s_l_close) (defScope s_l_close) .none kV8 dc8 pm8 an8 cd8 ct8), sl8⟩) (c8 : PySem.W.codeIn K cd8 "_law_close" = true) (k8 : PySem.W.keepIn K (.ref f8) = true)
    (a9 : PySem.W.nsIn K mainGlobals "_law_tree" = some (some (.ref f9)))
    (l9 : K.lookup f9 = some ⟨oc9, od9, .func (PySem.W.fnOf "_law_tree" "_law_tree" (defArgs s_l_tree) (defBody s_l_tree) (defScope s_l_tree) .none kV9 dc9 pm9 an9 cd9 ct9), sl9⟩) (c9 : PySem.W.codeIn K cd9 "_law_tree" = true) (k9 : PySem.W.keepIn K (.ref f9) = true)
    (a10 : PySem.W.nsIn K mainGlobals "_law_nodes" = some (some (.ref f10)))
    (l10 : K.lookup f10 = some ⟨oc10, od10, .func (PySem.W.fnOf "_law_nodes" "_law_nodes" (defArgs s_l_nodes) (defBody s_l_nodes) (defScope s_l_nodes) .none kV10 dc10 pm10 an10 cd10 ct10), sl10⟩) (c10 : PySem.W.codeIn K cd10 "_law_nodes" = true) (k10 : PySem.W.keepIn K (.ref f10) = true)
    (a11 : PySem.W.nsIn K mainGlobals "_law_asked" = some (some (.ref f11)))
    (l11 : K.lookup f11 = some ⟨oc11, od11, .func (PySem.W.fnOf "_law_asked" "_law_asked" (defArgs s_l_asked) (defBody s_l_asked) (defScope s_l_asked) .none kV11 dc11 pm11 an11 cd11 ct11), sl11⟩) (c11 : PySem.W.codeIn K cd11 "_law_asked" = true) (k11 : PySem.W.keepIn K (.ref f11) = true)
    (a12 : PySem.W.nsIn K mainGlobals "_law_elders" = some (some (.ref f12)))
    (l12 : K.lookup f12 = some ⟨oc12, od12, .func (PySem.W.fnOf "_law_elders" "_law_elders" (defArgs s_l_elders) (defBody s_l_elders) (defScope s_l_elders) .none kV12 dc12 pm12 an12 cd12 ct12), sl12⟩) (c12 : PySem.W.codeIn K cd12 "_law_elders" = true) (k12 : PySem.W.keepIn K (.ref f12) = true)
    (a13 : PySem.W.nsIn K mainGlobals "law" = some (some (.ref f13)))
    (l13 : K.lookup f13 = some ⟨oc13, od13, .func (PySem.W.fnOf "law" "law" (defArgs s_law) (defBody s_law) (defScope s_law) .none kV13 dc13 pm13 an13 cd13 ct13), sl13⟩) (c13 : PySem.W.codeIn K cd13 "law" = true) (k13 : PySem.W.keepIn K (.ref f13) = true)
    (z_ValueError : PySem.W.nsIn K mainGlobals "ValueError" = some none)
    (z_bool : PySem.W.nsIn K mainGlobals "bool" = some none)
    (z_int : PySem.W.nsIn K mainGlobals "int" = some none)
    (z_isinstance : PySem.W.nsIn K mainGlobals "isinstance" = some none)
    (z_len : PySem.W.nsIn K mainGlobals "len" = some none)
    (z_list : PySem.W.nsIn K mainGlobals "list" = some none)
    (z_max : PySem.W.nsIn K mainGlobals "max" = some none)
    (z_range : PySem.W.nsIn K mainGlobals "range" = some none)
    (z_str : PySem.W.nsIn K mainGlobals "str" = some none)
    (z_sum : PySem.W.nsIn K mainGlobals "sum" = some none)
    (z_tuple : PySem.W.nsIn K mainGlobals "tuple" = some none)
    (x_LaidError : PySem.W.nsIn K mainGlobals "LaidError" = some (some (.ref A_LaidError)))
    (x_NoPlace : PySem.W.nsIn K mainGlobals "NoPlace" = some (some (.ref A_NoPlace)))
    (x_Strange : PySem.W.nsIn K mainGlobals "Strange" = some (some (.ref A_Strange)))
    (X1_NoPlace : K.lookup A_NoPlace = some (excClassObj nm_NoPlace qq_NoPlace A_NoPlace N_NoPlace bs_NoPlace bm_NoPlace true sn_NoPlace sb_NoPlace ab_NoPlace co_NoPlace dd_NoPlace m0_NoPlace m1_NoPlace m2_NoPlace m3_NoPlace m5_NoPlace "ValueError.__new__")) (X2_NoPlace : PySem.HandSPX.refsVE bm_NoPlace = true)
    (X3_NoPlace : PySem.W.findIn K (.ref A_NoPlace) "__setattr__" = some (some (.builtin "object.__setattr__"))) (X4_NoPlace : PySem.W.subIn K (.ref A_NoPlace) (.type "BaseException") = some true) (X5_NoPlace : PySem.W.typeIn K (.ref A_NoPlace) = some (.type "type")) (X6_NoPlace : PySem.W.keepIn K (.ref A_NoPlace) = true)
    (X7_NoPlace : PySem.W.findIn K (.ref A_NoPlace) "__init__" = some (some (.ref fI_NoPlace))) (X8_NoPlace : PySem.W.typeIn K (.ref fI_NoPlace) = some (.type "function")) (X9_NoPlace : K.lookup fI_NoPlace = some ⟨oc_NoPlace, od_NoPlace, .func (PySem.W.fnOf "__init__" "NoPlace.__init__" (defArgs s_NoPlace) (defBody s_NoPlace) (defScope s_NoPlace) .none kV_NoPlace dc_NoPlace pm_NoPlace an_NoPlace cd_NoPlace ct_NoPlace), sl_NoPlace⟩) (Xa_NoPlace : PySem.W.codeIn K cd_NoPlace "NoPlace.__init__" = true) (Xb_NoPlace : PySem.W.keepIn K (.ref fI_NoPlace) = true)
    (Y0_NoPlace : PySem.W.findIn K (.ref A_NoPlace) "place" = some none)
    (Xc_NoPlace : PySem.W.findIn K (.ref A_NoPlace) "__getattribute__" = some (some (.builtin "BaseException.__getattribute__"))) (Xd_NoPlace : PySem.W.findIn K (.ref A_NoPlace) "__getattr__" = some none) (Xe_NoPlace : PySem.W.hasDictIn K A_NoPlace = true)
    (Xf_NoPlace : PySem.W.findIn K (.ref A_NoPlace) "__class__" = some (some (.builtin "object.__class__"))) (Xg_NoPlace : PySem.W.specialIn K (.builtin "object.__class__") "__get__" = some (some (.builtin "getset_descriptor.__get__"))) (Xh_NoPlace : PySem.W.takesIn K (.builtin "object.__class__") = some true) (Xi_NoPlace : PySem.W.mroIn K A_NoPlace (.type "object") = some true)
    (E_NoPlace_LaidError : PySem.W.exmOne K (.ref A_NoPlace) (.ref A_LaidError) = some true)
    (Q_NoPlace_NoPlace : PySem.W.kitOne K (.ref A_NoPlace) (.ref A_NoPlace) = some true)
    (Q_NoPlace_Strange : PySem.W.kitOne K (.ref A_NoPlace) (.ref A_Strange) = some false)
    (Q_NoPlace_ValueError : PySem.W.kitOne K (.ref A_NoPlace) (.type "ValueError") = some true) : ∃ T : Txt K mg, T.f_law = f13 ∧ T.fd_law = PySem.W.fnOf "law" "law" (defArgs s_law) (defBody s_law) (defScope s_law) .none kV13 dc13 pm13 an13 cd13 ct13 := by
  have F0 := fun_mk (st := s_node_at) l0 c0 k0
  have b0 := F0.binds (ps := ["tree", "place"]) fun _ _ _ _ _ _ us hl => match us, hl with | [_, _], _ => rfl
  have F1 := fun_mk (st := s_element_at) l1 c1 k1
  have b1 := F1.binds (ps := ["tree", "place"]) fun _ _ _ _ _ _ us hl => match us, hl with | [_, _], _ => rfl
  have F2 := fun_mk (st := s_elder_of) l2 c2 k2
  have b2 := F2.binds (ps := ["tree", "place"]) fun _ _ _ _ _ _ us hl => match us, hl with | [_, _], _ => rfl
  have F3 := fun_mk (st := s_l_cell) l3 c3 k3
  have b3 := F3.binds (ps := ["_law_script", "_law_k"]) fun _ _ _ _ _ _ us hl => match us, hl with | [_, _], _ => rfl
  have F4 := fun_mk (st := s_l_row) l4 c4 k4
  have b4 := F4.binds (ps := ["_law_cell_here", "_law_limits"]) fun _ _ _ _ _ _ us hl => match us, hl with | [_, _], _ => rfl
  have F5 := fun_mk (st := s_l_same) l5 c5 k5
  have b5 := F5.binds (ps := ["_law_one", "_law_two"]) fun _ _ _ _ _ _ us hl => match us, hl with | [_, _], _ => rfl
  have F6 := fun_mk (st := s_l_names) l6 c6 k6
  have b6 := F6.binds (ps := ["_law_cell_here", "_law_many"]) fun _ _ _ _ _ _ us hl => match us, hl with | [_, _], _ => rfl
  have F7 := fun_mk (st := s_l_texts) l7 c7 k7
  have b7 := F7.binds (ps := ["_law_cell_here", "_law_many"]) fun _ _ _ _ _ _ us hl => match us, hl with | [_, _], _ => rfl
  have F8 := fun_mk (st := s_l_close) l8 c8 k8
  have b8 := F8.binds (ps := ["_law_stack"]) fun _ _ _ _ _ _ us hl => match us, hl with | [_], _ => rfl
  have F9 := fun_mk (st := s_l_tree) l9 c9 k9
  have b9 := F9.binds (ps := ["_law_cell_here", "_law_most", "_law_deep", "_law_kinds", "_law_marks", "_law_texts_here"]) fun _ _ _ _ _ _ us hl => match us, hl with | [_, _, _, _, _, _], _ => rfl
  have F10 := fun_mk (st := s_l_nodes) l10 c10 k10
  have b10 := F10.binds (ps := ["_law_tree_here"]) fun _ _ _ _ _ _ us hl => match us, hl with | [_], _ => rfl
  have F11 := fun_mk (st := s_l_asked) l11 c11 k11
  have b11 := F11.binds (ps := ["_law_tree_here", "_law_place"]) fun _ _ _ _ _ _ us hl => match us, hl with | [_, _], _ => rfl
  have F12 := fun_mk (st := s_l_elders) l12 c12 k12
  have b12 := F12.binds (ps := ["_law_tree_here", "_law_far"]) fun _ _ _ _ _ _ us hl => match us, hl with | [_, _], _ => rfl
  have F13 := fun_mk (st := s_law) l13 c13 k13
  have b13 := F13.binds (ps := ["_law_script"]) fun _ _ _ _ _ _ us hl => match us, hl with | [_], _ => rfl
  have FI_NoPlace := fun_mk (st := s_NoPlace) X9_NoPlace Xa_NoPlace Xb_NoPlace
  have bI_NoPlace := FI_NoPlace.binds (ps := ["self", "place"]) fun _ _ _ _ _ _ us hl => match us, hl with | [_, _], _ => rfl
  exact ⟨⟨f0, _, F0, PySem.W.mg_of X G a0, b0, f1, _, F1, PySem.W.mg_of X G a1, b1, f2, _, F2, PySem.W.mg_of X G a2, b2, f3, _, F3, PySem.W.mg_of X G a3, b3, f4, _, F4, PySem.W.mg_of X G a4, b4, f5, _, F5, PySem.W.mg_of X G a5, b5, f6, _, F6, PySem.W.mg_of X G a6, b6, f7, _, F7, PySem.W.mg_of X G a7, b7, f8, _, F8, PySem.W.mg_of X G a8, b8, f9, _, F9, PySem.W.mg_of X G a9, b9, f10, _, F10, PySem.W.mg_of X G a10, b10, f11, _, F11, PySem.W.mg_of X G a11, b11, f12, _, F12, PySem.W.mg_of X G a12, b12, f13, _, F13, PySem.W.mg_of X G a13, b13, PySem.W.mg_none_of X G z_ValueError, PySem.W.mg_none_of X G z_bool, PySem.W.mg_none_of X G z_int, PySem.W.mg_none_of X G z_isinstance, PySem.W.mg_none_of X G z_len, PySem.W.mg_none_of X G z_list, PySem.W.mg_none_of X G z_max, PySem.W.mg_none_of X G z_range, PySem.W.mg_none_of X G z_str, PySem.W.mg_none_of X G z_sum, PySem.W.mg_none_of X G z_tuple, A_LaidError, PySem.W.mg_of X G x_LaidError, A_NoPlace, PySem.W.mg_of X G x_NoPlace, A_Strange, PySem.W.mg_of X G x_Strange, ⟨⟨_, _, _, _, _, _, _, _, _, _, _, _, _, _, _, X1_NoPlace, X2_NoPlace⟩, X3_NoPlace, X4_NoPlace, X5_NoPlace, X6_NoPlace⟩, fI_NoPlace, _, X7_NoPlace, X8_NoPlace, FI_NoPlace, bI_NoPlace, Y0_NoPlace, ⟨Xc_NoPlace, Xd_NoPlace, X4_NoPlace, Xe_NoPlace⟩, ⟨Xc_NoPlace, Xd_NoPlace, X4_NoPlace, Xe_NoPlace, Xf_NoPlace, Xg_NoPlace, Xh_NoPlace, Xi_NoPlace⟩, E_NoPlace_LaidError, Q_NoPlace_NoPlace, Q_NoPlace_Strange, Q_NoPlace_ValueError⟩, rfl, rfl⟩
def spLaw (K : PySem.W.Frag) : Sp := fun vs H Q _ => ∃ (a : Addr) (ns : List Int), vs = [.ref a] ∧ SqL K H a (ns.map V.int) ∧ ns.length ≤ 63 ∧ ∀ H', Q (.bl true) H'
theorem ok_end {P : Program} {w : World} {K : PySem.W.Frag} {mg : Str → Option Value} {base : Heap} (T : Txt K mg) : FnOk P w K mg base (L2.CX P w) 8 T.f_law T.fd_law ["_law_script"] (spLaw K) := FnOk.imp (ok_law T) fun vs H Q E ⟨a, ns, e, hS, hl, k⟩ => by
  subst e
  exact law_sp (law_true ns hl) hS k
theorem all_mk {l : PySem.W.OpenLaw} {w : World} {K : PySem.W.Frag} {h : Heap} {mg : Str → Option Value} {fa : Addr} (X : K.In h) (G : h.Ns mainGlobals mg) (hfa : mg "law" = some (.ref fa))
    {f0 : Addr} {oc0 kV0 dc0 pm0 cd0 ct0 : Value} {od0 an0 : Option Addr} {sl0 : Array (Option Value)}
    {f1 : Addr} {oc1 kV1 dc1 pm1 cd1 ct1 : Value} {od1 an1 : Option Addr} {sl1 : Array (Option Value)}
    {f2 : Addr} {oc2 kV2 dc2 pm2 cd2 ct2 : Value} {od2 an2 : Option Addr} {sl2 : Array (Option Value)}
    {f3 : Addr} {oc3 kV3 dc3 pm3 cd3 ct3 : Value} {od3 an3 : Option Addr} {sl3 : Array (Option Value)}
    {f4 : Addr} {oc4 kV4 dc4 pm4 cd4 ct4 : Value} {od4 an4 : Option Addr} {sl4 : Array (Option Value)}
    {f5 : Addr} {oc5 kV5 dc5 pm5 cd5 ct5 : Value} {od5 an5 : Option Addr} {sl5 : Array (Option Value)}
    {f6 : Addr} {oc6 kV6 dc6 pm6 cd6 ct6 : Value} {od6 an6 : Option Addr} {sl6 : Array (Option Value)}
    {f7 : Addr} {oc7 kV7 dc7 pm7 cd7 ct7 : Value} {od7 an7 : Option Addr} {sl7 : Array (Option Value)}
    {f8 : Addr} {oc8 kV8 dc8 pm8 cd8 ct8 : Value} {od8 an8 : Option Addr} {sl8 : Array (Option Value)}
    {f9 : Addr} {oc9 kV9 dc9 pm9 cd9 ct9 : Value} {od9 an9 : Option Addr} {sl9 : Array (Option Value)}
    {f10 : Addr} {oc10 kV10 dc10 pm10 cd10 ct10 : Value} {od10 an10 : Option Addr} {sl10 : Array (Option Value)}
    {f11 : Addr} {oc11 kV11 dc11 pm11 cd11 ct11 : Value} {od11 an11 : Option Addr} {sl11 : Array (Option Value)}
    {f12 : Addr} {oc12 kV12 dc12 pm12 cd12 ct12 : Value} {od12 an12 : Option Addr} {sl12 : Array (Option Value)}
    {f13 : Addr} {oc13 kV13 dc13 pm13 cd13 ct13 : Value} {od13 an13 : Option Addr} {sl13 : Array (Option Value)}
    {A_LaidError : Addr}
    {A_NoPlace : Addr}
    {A_Strange : Addr}
    {nm_NoPlace qq_NoPlace : Str} {N_NoPlace fI_NoPlace : Addr} {bs_NoPlace bm_NoPlace : List Value} {sn_NoPlace : List Str} {sb_NoPlace : List Value} {ab_NoPlace : Bool} {co_NoPlace : Option Bool} {dd_NoPlace od_NoPlace an_NoPlace : Option Addr} {m0_NoPlace m1_NoPlace m2_NoPlace m3_NoPlace m5_NoPlace : Option Value} {oc_NoPlace kV_NoPlace dc_NoPlace pm_NoPlace cd_NoPlace ct_NoPlace : Value} {sl_NoPlace : Array (Option Value)}
    (a0 : PySem.W.nsIn K mainGlobals "node_at" = some (some (.ref f0)))
    (l0 : K.lookup f0 = some ⟨oc0, od0, .func (PySem.W.fnOf "node_at" "node_at" (defArgs s_node_at) (defBody s_node_at) (defScope s_node_at) .none kV0 dc0 pm0 an0 cd0 ct0), sl0⟩) (c0 : PySem.W.codeIn K cd0 "node_at" = true) (k0 : PySem.W.keepIn K (.ref f0) = true)
    (a1 : PySem.W.nsIn K mainGlobals "element_at" = some (some (.ref f1)))
    (l1 : K.lookup f1 = some ⟨oc1, od1, .func (PySem.W.fnOf "element_at" "element_at" (defArgs s_element_at) (defBody s_element_at) (defScope s_element_at) .none kV1 dc1 pm1 an1 cd1 ct1), sl1⟩) (c1 : PySem.W.codeIn K cd1 "element_at" = true) (k1 : PySem.W.keepIn K (.ref f1) = true)
    (a2 : PySem.W.nsIn K mainGlobals "elder_of" = some (some (.ref f2)))
    (l2 : K.lookup f2 = some ⟨oc2, od2, .func (PySem.W.fnOf "elder_of" "elder_of" (defArgs s_elder_of) (defBody s_elder_of) (defScope s_elder_of) .none kV2 dc2 pm2 an2 cd2 ct2), sl2⟩) (c2 : PySem.W.codeIn K cd2 "elder_of" = true) (k2 : PySem.W.keepIn K (.ref f2) = true)
    (a3 : PySem.W.nsIn K mainGlobals "_law_cell" = some (some (.ref f3)))
    (l3 : K.lookup f3 = some ⟨oc3, od3, .func (PySem.W.fnOf "_law_cell" "_law_cell" (defArgs s_l_cell) (defBody s_l_cell) (defScope s_l_cell) .none kV3 dc3 pm3 an3 cd3 ct3), sl3⟩) (c3 : PySem.W.codeIn K cd3 "_law_cell" = true) (k3 : PySem.W.keepIn K (.ref f3) = true)
    (a4 : PySem.W.nsIn K mainGlobals "_law_row" = some (some (.ref f4)))
    (l4 : K.lookup f4 = some ⟨oc4, od4, .func (PySem.W.fnOf "_law_row" "_law_row" (defArgs s_l_row) (defBody s_l_row) (defScope s_l_row) .none kV4 dc4 pm4 an4 cd4 ct4), sl4⟩) (c4 : PySem.W.codeIn K cd4 "_law_row" = true) (k4 : PySem.W.keepIn K (.ref f4) = true)
    (a5 : PySem.W.nsIn K mainGlobals "_law_same" = some (some (.ref f5)))
    (l5 : K.lookup f5 = some ⟨oc5, od5, .func (PySem.W.fnOf "_law_same" "_law_same" (defArgs s_l_same) (defBody s_l_same) (defScope s_l_same) .none kV5 dc5 pm5 an5 cd5 ct5), sl5⟩) (c5 : PySem.W.codeIn K cd5 "_law_same" = true) (k5 : PySem.W.keepIn K (.ref f5) = true)
    (a6 : PySem.W.nsIn K mainGlobals "_law_names" = some (some (.ref f6)))
    (l6 : K.lookup f6 = some ⟨oc6, od6, .func (PySem.W.fnOf "_law_names" "_law_names" (defArgs s_l_names) (defBody s_l_names) (defScope s_l_names) .none kV6 dc6 pm6 an6 cd6 ct6), sl6⟩) (c6 : PySem.W.codeIn K cd6 "_law_names" = true) (k6 : PySem.W.keepIn K (.ref f6) = true)
    (a7 : PySem.W.nsIn K mainGlobals "_law_texts" = some (some (.ref f7)))
    (l7 : K.lookup f7 = some ⟨oc7, od7, .func (PySem.W.fnOf "_law_texts" "_law_texts" (defArgs s_l_texts) (defBody s_l_texts) (defScope s_l_texts) .none kV7 dc7 pm7 an7 cd7 ct7), sl7⟩) (c7 : PySem.W.codeIn K cd7 "_law_texts" = true) (k7 : PySem.W.keepIn K (.ref f7) = true)
    (a8 : PySem.W.nsIn K mainGlobals "_law_close" = some (some (.ref f8)))
    (l8 : K.lookup f8 = some ⟨oc8, od8, .func (PySem.W.fnOf "_law_close" "_law_close" (defArgs s_l_close) (defBody s_l_close) (defScope s_l_close) .none kV8 dc8 pm8 an8 cd8 ct8), sl8⟩) (c8 : PySem.W.codeIn K cd8 "_law_close" = true) (k8 : PySem.W.keepIn K (.ref f8) = true)
    (a9 : PySem.W.nsIn K mainGlobals "_law_tree" = some (some (.ref f9)))
    (l9 : K.lookup f9 = some ⟨oc9, od9, .func (PySem.W.fnOf "_law_tree" "_law_tree" (defArgs s_l_tree) (defBody s_l_tree) (defScope s_l_tree) .none kV9 dc9 pm9 an9 cd9 ct9), sl9⟩) (c9 : PySem.W.codeIn K cd9 "_law_tree" = true) (k9 : PySem.W.keepIn K (.ref f9) = true)
    (a10 : PySem.W.nsIn K mainGlobals "_law_nodes" = some (some (.ref f10)))
    (l10 : K.lookup f10 = some ⟨oc10, od10, .func (PySem.W.fnOf "_law_nodes" "_law_nodes" (defArgs s_l_nodes) (defBody s_l_nodes) (defScope s_l_nodes) .none kV10 dc10 pm10 an10 cd10 ct10), sl10⟩) (c10 : PySem.W.codeIn K cd10 "_law_nodes" = true) (k10 : PySem.W.keepIn K (.ref f10) = true)
    (a11 : PySem.W.nsIn K mainGlobals "_law_asked" = some (some (.ref f11)))
    (l11 : K.lookup f11 = some ⟨oc11, od11, .func (PySem.W.fnOf "_law_asked" "_law_asked" (defArgs s_l_asked) (defBody s_l_asked) (defScope s_l_asked) .none kV11 dc11 pm11 an11 cd11 ct11), sl11⟩) (c11 : PySem.W.codeIn K cd11 "_law_asked" = true) (k11 : PySem.W.keepIn K (.ref f11) = true)
    (a12 : PySem.W.nsIn K mainGlobals "_law_elders" = some (some (.ref f12)))
    (l12 : K.lookup f12 = some ⟨oc12, od12, .func (PySem.W.fnOf "_law_elders" "_law_elders" (defArgs s_l_elders) (defBody s_l_elders) (defScope s_l_elders) .none kV12 dc12 pm12 an12 cd12 ct12), sl12⟩) (c12 : PySem.W.codeIn K cd12 "_law_elders" = true) (k12 : PySem.W.keepIn K (.ref f12) = true)
    (a13 : PySem.W.nsIn K mainGlobals "law" = some (some (.ref f13)))
    (l13 : K.lookup f13 = some ⟨oc13, od13, .func (PySem.W.fnOf "law" "law" (defArgs s_law) (defBody s_law) (defScope s_law) .none kV13 dc13 pm13 an13 cd13 ct13), sl13⟩) (c13 : PySem.W.codeIn K cd13 "law" = true) (k13 : PySem.W.keepIn K (.ref f13) = true)
    (z_ValueError : PySem.W.nsIn K mainGlobals "ValueError" = some none)
    (z_bool : PySem.W.nsIn K mainGlobals "bool" = some none)
    (z_int : PySem.W.nsIn K mainGlobals "int" = some none)
    (z_isinstance : PySem.W.nsIn K mainGlobals "isinstance" = some none)
    (z_len : PySem.W.nsIn K mainGlobals "len" = some none)
    (z_list : PySem.W.nsIn K mainGlobals "list" = some none)
    (z_max : PySem.W.nsIn K mainGlobals "max" = some none)
    (z_range : PySem.W.nsIn K mainGlobals "range" = some none)
    (z_str : PySem.W.nsIn K mainGlobals "str" = some none)
    (z_sum : PySem.W.nsIn K mainGlobals "sum" = some none)
    (z_tuple : PySem.W.nsIn K mainGlobals "tuple" = some none)
    (x_LaidError : PySem.W.nsIn K mainGlobals "LaidError" = some (some (.ref A_LaidError)))
    (x_NoPlace : PySem.W.nsIn K mainGlobals "NoPlace" = some (some (.ref A_NoPlace)))
    (x_Strange : PySem.W.nsIn K mainGlobals "Strange" = some (some (.ref A_Strange)))
    (X1_NoPlace : K.lookup A_NoPlace = some (excClassObj nm_NoPlace qq_NoPlace A_NoPlace N_NoPlace bs_NoPlace bm_NoPlace true sn_NoPlace sb_NoPlace ab_NoPlace co_NoPlace dd_NoPlace m0_NoPlace m1_NoPlace m2_NoPlace m3_NoPlace m5_NoPlace "ValueError.__new__")) (X2_NoPlace : PySem.HandSPX.refsVE bm_NoPlace = true)
    (X3_NoPlace : PySem.W.findIn K (.ref A_NoPlace) "__setattr__" = some (some (.builtin "object.__setattr__"))) (X4_NoPlace : PySem.W.subIn K (.ref A_NoPlace) (.type "BaseException") = some true) (X5_NoPlace : PySem.W.typeIn K (.ref A_NoPlace) = some (.type "type")) (X6_NoPlace : PySem.W.keepIn K (.ref A_NoPlace) = true)
    (X7_NoPlace : PySem.W.findIn K (.ref A_NoPlace) "__init__" = some (some (.ref fI_NoPlace))) (X8_NoPlace : PySem.W.typeIn K (.ref fI_NoPlace) = some (.type "function")) (X9_NoPlace : K.lookup fI_NoPlace = some ⟨oc_NoPlace, od_NoPlace, .func (PySem.W.fnOf "__init__" "NoPlace.__init__" (defArgs s_NoPlace) (defBody s_NoPlace) (defScope s_NoPlace) .none kV_NoPlace dc_NoPlace pm_NoPlace an_NoPlace cd_NoPlace ct_NoPlace), sl_NoPlace⟩) (Xa_NoPlace : PySem.W.codeIn K cd_NoPlace "NoPlace.__init__" = true) (Xb_NoPlace : PySem.W.keepIn K (.ref fI_NoPlace) = true)
    (Y0_NoPlace : PySem.W.findIn K (.ref A_NoPlace) "place" = some none)
    (Xc_NoPlace : PySem.W.findIn K (.ref A_NoPlace) "__getattribute__" = some (some (.builtin "BaseException.__getattribute__"))) (Xd_NoPlace : PySem.W.findIn K (.ref A_NoPlace) "__getattr__" = some none) (Xe_NoPlace : PySem.W.hasDictIn K A_NoPlace = true)
    (Xf_NoPlace : PySem.W.findIn K (.ref A_NoPlace) "__class__" = some (some (.builtin "object.__class__"))) (Xg_NoPlace : PySem.W.specialIn K (.builtin "object.__class__") "__get__" = some (some (.builtin "getset_descriptor.__get__"))) (Xh_NoPlace : PySem.W.takesIn K (.builtin "object.__class__") = some true) (Xi_NoPlace : PySem.W.mroIn K A_NoPlace (.type "object") = some true)
    (E_NoPlace_LaidError : PySem.W.exmOne K (.ref A_NoPlace) (.ref A_LaidError) = some true)
    (Q_NoPlace_NoPlace : PySem.W.kitOne K (.ref A_NoPlace) (.ref A_NoPlace) = some true)
    (Q_NoPlace_Strange : PySem.W.kitOne K (.ref A_NoPlace) (.ref A_Strange) = some false)
    (Q_NoPlace_ValueError : PySem.W.kitOne K (.ref A_NoPlace) (.type "ValueError") = some true) :
    ∃ fd : FuncData, (∀ (s : Shared) (v : Value), BindsTo s fd ⟨[v], []⟩ [("_law_script", v)]) ∧ ∀ base : Heap, K.In base → base.Ns mainGlobals mg → FnOk l.prog w K mg base (L2.CX l.prog w) 8 fa fd ["_law_script"] (spLaw K) := by
  have e := hfa.symm.trans (PySem.W.mg_of X G a13)
  cases e
  obtain ⟨T, e1, e2⟩ := txt_mk X G a0 l0 c0 k0 a1 l1 c1 k1 a2 l2 c2 k2 a3 l3 c3 k3 a4 l4 c4 k4 a5 l5 c5 k5 a6 l6 c6 k6 a7 l7 c7 k7 a8 l8 c8 k8 a9 l9 c9 k9 a10 l10 c10 k10 a11 l11 c11 k11 a12 l12 c12 k12 a13 l13 c13 k13 z_ValueError z_bool z_int z_isinstance z_len z_list z_max z_range z_str z_sum z_tuple x_LaidError x_NoPlace x_Strange X1_NoPlace X2_NoPlace X3_NoPlace X4_NoPlace X5_NoPlace X6_NoPlace X7_NoPlace X8_NoPlace X9_NoPlace Xa_NoPlace Xb_NoPlace Y0_NoPlace Xc_NoPlace Xd_NoPlace Xe_NoPlace Xf_NoPlace Xg_NoPlace Xh_NoPlace Xi_NoPlace E_NoPlace_LaidError Q_NoPlace_NoPlace Q_NoPlace_Strange Q_NoPlace_ValueError
  refine ⟨PySem.W.fnOf "law" "law" (defArgs s_law) (defBody s_law) (defScope s_law) .none kV13 dc13 pm13 an13 cd13 ct13, fun s v => .of_eq rfl, fun base _ _ => ?_⟩
  have z := ok_end (P := l.prog) (w := w) (base := base) T
  rw [e1, e2] at z
  exact z
end Lk
end S_P_end
section S_P_top
set_option Elab.async false
set_option linter.all false
open PySem PySem.W PyProof.Rows
set_option maxRecDepth 100000 in
set_option maxHeartbeats 0 in
theorem PySem.Challenge.cw_laidforall_k02_elder_siblings_holds : PySem.Challenge.rw_laidforall_k02_elder_siblings.Holds := by
  w_on; o_law; k_head; (case hw => w_witness2)
  k_fill
  refine L2.walk_of (l := PySem.Challenge.rw_laidforall_k02_elder_siblings) (n := 63) (k := 8) (x := "_law_script") (CX := fun w => L2.CX PySem.Challenge.rw_laidforall_k02_elder_siblings.prog w) (sp := fun w => Lk.spLaw _) rfl (by decide) rfl ⟨rfl, by decide, by decide⟩ (fun w h Y => PySem.W.kIn_of Y) ?F (fun _ _ a ns hl _ hS => ⟨a, ns, rfl, hS, hl, fun _ => rfl⟩) (fun _ _ _ _ _ h => Dx.cx_never h)
  case F =>
    intro w mg fa h KX G hmg
    refine' Lk.all_mk KX G hmg ?a0 ?l0 ?c0 ?k0 ?a1 ?l1 ?c1 ?k1 ?a2 ?l2 ?c2 ?k2 ?a3 ?l3 ?c3 ?k3 ?a4 ?l4 ?c4 ?k4 ?a5 ?l5 ?c5 ?k5 ?a6 ?l6 ?c6 ?k6 ?a7 ?l7 ?c7 ?k7 ?a8 ?l8 ?c8 ?k8 ?a9 ?l9 ?c9 ?k9 ?a10 ?l10 ?c10 ?k10 ?a11 ?l11 ?c11 ?k11 ?a12 ?l12 ?c12 ?k12 ?a13 ?l13 ?c13 ?k13 ?z_ValueError ?z_bool ?z_int ?z_isinstance ?z_len ?z_list ?z_max ?z_range ?z_str ?z_sum ?z_tuple ?x_LaidError ?x_NoPlace ?x_Strange ?X1_NoPlace ?X2_NoPlace ?X3_NoPlace ?X4_NoPlace ?X5_NoPlace ?X6_NoPlace ?X7_NoPlace ?X8_NoPlace ?X9_NoPlace ?Xa_NoPlace ?Xb_NoPlace ?Y0_NoPlace ?Xc_NoPlace ?Xd_NoPlace ?Xe_NoPlace ?Xf_NoPlace ?Xg_NoPlace ?Xh_NoPlace ?Xi_NoPlace ?E_NoPlace_LaidError ?Q_NoPlace_NoPlace ?Q_NoPlace_Strange ?Q_NoPlace_ValueError
    (case x_LaidError => k_is)
    (case x_NoPlace => k_is)
    (case x_Strange => k_is)
    (case a0 => k_is)
    (case l0 => k_is)
    (case c0 => k_is)
    (case k0 => k_is)
    (case a1 => k_is)
    (case l1 => k_is)
    (case c1 => k_is)
    (case k1 => k_is)
    (case a2 => k_is)
    (case l2 => k_is)
    (case c2 => k_is)
    (case k2 => k_is)
    (case a3 => k_is)
    (case l3 => k_is)
    (case c3 => k_is)
    (case k3 => k_is)
    (case a4 => k_is)
    (case l4 => k_is)
    (case c4 => k_is)
    (case k4 => k_is)
    (case a5 => k_is)
    (case l5 => k_is)
    (case c5 => k_is)
    (case k5 => k_is)
    (case a6 => k_is)
    (case l6 => k_is)
    (case c6 => k_is)
    (case k6 => k_is)
    (case a7 => k_is)
    (case l7 => k_is)
    (case c7 => k_is)
    (case k7 => k_is)
    (case a8 => k_is)
    (case l8 => k_is)
    (case c8 => k_is)
    (case k8 => k_is)
    (case a9 => k_is)
    (case l9 => k_is)
    (case c9 => k_is)
    (case k9 => k_is)
    (case a10 => k_is)
    (case l10 => k_is)
    (case c10 => k_is)
    (case k10 => k_is)
    (case a11 => k_is)
    (case l11 => k_is)
    (case c11 => k_is)
    (case k11 => k_is)
    (case a12 => k_is)
    (case l12 => k_is)
    (case c12 => k_is)
    (case k12 => k_is)
    (case a13 => k_is)
    (case l13 => k_is)
    (case c13 => k_is)
    (case k13 => k_is)
    (case z_ValueError => k_is)
    (case z_bool => k_is)
    (case z_int => k_is)
    (case z_isinstance => k_is)
    (case z_len => k_is)
    (case z_list => k_is)
    (case z_max => k_is)
    (case z_range => k_is)
    (case z_str => k_is)
    (case z_sum => k_is)
    (case z_tuple => k_is)
    (case X1_NoPlace => k_is)
    (case X2_NoPlace => decide +kernel)
    (case X3_NoPlace => k_is)
    (case X4_NoPlace => k_is)
    (case X5_NoPlace => k_is)
    (case X6_NoPlace => k_is)
    (case X7_NoPlace => k_is)
    (case X8_NoPlace => k_is)
    (case X9_NoPlace => k_is)
    (case Xa_NoPlace => k_is)
    (case Xb_NoPlace => k_is)
    (case Y0_NoPlace => k_is)
    (case Xc_NoPlace => k_is)
    (case Xd_NoPlace => k_is)
    (case Xe_NoPlace => k_is)
    (case Xf_NoPlace => k_is)
    (case Xg_NoPlace => k_is)
    (case Xh_NoPlace => k_is)
    (case Xi_NoPlace => k_is)
    (case E_NoPlace_LaidError => first | k_is | rfl | decide +kernel)
    (case Q_NoPlace_NoPlace => first | k_is | rfl | decide +kernel)
    (case Q_NoPlace_Strange => first | k_is | rfl | decide +kernel)
    (case Q_NoPlace_ValueError => first | k_is | rfl | decide +kernel)
end S_P_top
